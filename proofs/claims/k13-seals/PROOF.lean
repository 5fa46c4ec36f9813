import PyProof.Rows.All
import Wide.All
import OpenK.AllK
import Wide.FinOn
import HandS.ForSpec
import HandS.ForMost
import HandS.TupAny
import HandS.NoneIn
import HandS.Conv
import HandS.Rev
import HandS.SortInts
import HandS.IsInst
import HandS.Style
import HandS.Flow
import HandS.ExcIs
import HandS.TryOnly
import HandS.ExcOwn
import HandS.Exc
import KE.KTupSum
import PySem.Challenge.RW_cairnhouse_k13_sealed_sectors
set_option Elab.async false
set_option linter.all false
set_option maxRecDepth 100000
set_option maxHeartbeats 4000000
/-! Cn0: what a value stands for (D, T), heaps that grow, the state of a body -/
namespace Cn
open PySem PySem.Spec L2

/-- a result: stuck, an exception of a class, a value -/
inductive R (α : Type) where
  | bad
  | err (c : Str)
  | ok (a : α)
def R.bind {α β : Type} (m : R α) (f : α → R β) : R β :=
  match m with
  | .bad => .bad
  | .err c => .err c
  | .ok a => f a
instance : Monad R where
  pure := R.ok
  bind := R.bind
theorem bind_ok {α β : Type} {a : α} {f : α → R β} : (R.ok a >>= f) = f a := rfl
theorem bind_bad {α β : Type} {f : α → R β} : ((R.bad : R α) >>= f) = R.bad := rfl
theorem bind_err {α β : Type} {c : Str} {f : α → R β} : ((R.err c : R α) >>= f) = R.err c := rfl
/-- what holds of a result: nothing is said of one that is stuck -/
def Po {α : Type} (m : R α) (Q : α → Prop) (E : Str → Prop) : Prop :=
  match m with
  | .bad => False
  | .err c => E c
  | .ok a => Q a
theorem Po.bind {α β : Type} {m : R α} {f : α → R β} {Q : β → Prop} {E : Str → Prop} (h : Po (m >>= f) Q E) : Po m (fun a => Po (f a) Q E) E := by
  cases m with
  | bad => exact h
  | err c => exact h
  | ok a => exact h
theorem Po.imp {α : Type} {m : R α} {Q Q' : α → Prop} {E E' : Str → Prop} (h : Po m Q E) (hq : ∀ a, m = .ok a → Q a → Q' a) (he : ∀ c, E c → E' c) : Po m Q' E' := by
  cases m with
  | bad => exact h
  | err c => exact he c h
  | ok a => exact hq a rfl h

/-- data as a whole; what is shared and stays -/
inductive D where
  /-- anything -/
  | any
  | non
  | bl (b : Bool)
  | int (i : Int)
  | str (s : Str)
  | tup (ds : List D)
  | lst (ds : List D)
  /-- a list that is read alone (the script, a list of the module's) -/
  | frl (ds : List D)
  | dic (ks : List Key) (ds : List D)
  | dit (ks : List (List Key)) (ds : List D)
  | obj (C : Str) (fs : List Str) (ds : List D)
/-- .. and what is one's own -/
inductive T where
  | imm (d : D)
  | lst (ts : List T)
  | dic (ks : List Key) (ts : List T)
  | dit (ks : List (List Key)) (ts : List T)
  | obj (C : Str) (fs : List Str) (ts : List T)
structure Ctx where
  K : PySem.W.Frag
  mg : Str → Option Value
mutual
/-- v stands for d in the heap M -/
def Rep (G : Ctx) (M : Hp) : D → V → Prop
  | .any, _ => True
  | .non, v => v = .non
  | .bl b, v => v = .bl b
  | .int i, v => v = .int i
  | .str s, v => v = .str s
  | .tup ds, v => ∃ a vs, v = .ref a ∧ SqT G.K M a vs ∧ Reps G M ds vs
  | .lst ds, v => ∃ a vs, v = .ref a ∧ M a = some (.lst vs) ∧ Reps G M ds vs
  | .frl ds, v => ∃ a vs, v = .ref a ∧ SqL G.K M a vs ∧ Reps G M ds vs
  | .dic ks ds, v => ∃ a kvs, v = .ref a ∧ M a = some (.dK kvs) ∧ kvs.map (·.1) = ks ∧ Reps G M ds (kvs.map (·.2))
  | .dit ks ds, v => ∃ a kvs, v = .ref a ∧ M a = some (.dT kvs) ∧ kvs.map (·.1) = ks ∧ Reps G M ds (kvs.map (·.2))
  | .obj C fs ds, v => ∃ a c dx kvs, v = .ref a ∧ G.mg C = some (.ref c) ∧ M a = some (.ins c dx kvs) ∧ kvs.map (·.1) = fs ∧ Reps G M ds (kvs.map (·.2))
def Reps (G : Ctx) (M : Hp) : List D → List V → Prop
  | [], vs => vs = []
  | d :: ds, vs => ∃ v r, vs = v :: r ∧ Rep G M d v ∧ Reps G M ds r
end
mutual
/-- v is the tree t: its own addresses are as, what is shared stands in M -/
def Own (G : Ctx) (M H : Hp) : T → V → List Addr → Prop
  | .imm d, v, as => as = [] ∧ Rep G M d v
  | .lst ts, v, as => ∃ a vs r, v = .ref a ∧ as = a :: r ∧ H a = some (.lst vs) ∧ Owns G M H ts vs r
  | .dic ks ts, v, as => ∃ a kvs r, v = .ref a ∧ as = a :: r ∧ H a = some (.dK kvs) ∧ kvs.map (·.1) = ks ∧ Owns G M H ts (kvs.map (·.2)) r
  | .dit ks ts, v, as => ∃ a kvs r, v = .ref a ∧ as = a :: r ∧ H a = some (.dT kvs) ∧ kvs.map (·.1) = ks ∧ Owns G M H ts (kvs.map (·.2)) r
  | .obj C fs ts, v, as => ∃ a c dx kvs r, v = .ref a ∧ as = a :: r ∧ G.mg C = some (.ref c) ∧ H a = some (.ins c dx kvs) ∧ kvs.map (·.1) = fs ∧ Owns G M H ts (kvs.map (·.2)) r
def Owns (G : Ctx) (M H : Hp) : List T → List V → List Addr → Prop
  | [], vs, as => vs = [] ∧ as = []
  | t :: ts, vs, as => ∃ v r a1 a2, vs = v :: r ∧ as = a1 ++ a2 ∧ Own G M H t v a1 ∧ Owns G M H ts r a2
end
section
variable {G : Ctx} {M M' H H' : Hp}
theorem same_sqt {a : Addr} {xs : List V} {K : PySem.W.Frag} (e : Same M M') (h : SqT K M a xs) : SqT K M' a xs := by
  rcases h with (h | ⟨o, h⟩) | h
  · exact .inl (.inl (e _ _ h))
  · exact .inl (.inr ⟨o, e _ _ h⟩)
  · exact .inr h
mutual
theorem Rep.mono (e : Same M M') : ∀ (d : D) (v : V), Rep G M d v → Rep G M' d v
  | .any, v, h => h
  | .non, v, h => h
  | .bl b, v, h => h
  | .int i, v, h => h
  | .str s, v, h => h
  | .tup ds, v, ⟨a, vs, h1, h2, h3⟩ => ⟨a, vs, h1, same_sqt e h2, Reps.mono e ds vs h3⟩
  | .lst ds, v, ⟨a, vs, h1, h2, h3⟩ => ⟨a, vs, h1, e _ _ h2, Reps.mono e ds vs h3⟩
  | .frl ds, v, ⟨a, vs, h1, h2, h3⟩ => ⟨a, vs, h1, e.seq h2, Reps.mono e ds vs h3⟩
  | .dic ks ds, v, ⟨a, vs, h1, h2, h4, h3⟩ => ⟨a, vs, h1, e _ _ h2, h4, Reps.mono e ds _ h3⟩
  | .dit ks ds, v, ⟨a, vs, h1, h2, h4, h3⟩ => ⟨a, vs, h1, e _ _ h2, h4, Reps.mono e ds _ h3⟩
  | .obj C fs ds, v, ⟨a, c, dx, vs, h1, h5, h2, h4, h3⟩ => ⟨a, c, dx, vs, h1, h5, e _ _ h2, h4, Reps.mono e ds _ h3⟩
theorem Reps.mono (e : Same M M') : ∀ (ds : List D) (vs : List V), Reps G M ds vs → Reps G M' ds vs
  | [], vs, h => h
  | d :: ds, vs, ⟨v, r, h1, h2, h3⟩ => ⟨v, r, h1, Rep.mono e d v h2, Reps.mono e ds r h3⟩
end
mutual
theorem Own.keep (e : Same M M') : ∀ (t : T) (v : V) (as : List Addr), (∀ a ∈ as, ∀ o, H a = some o → H' a = some o) → Own G M H t v as → Own G M' H' t v as
  | .imm d, v, as, f, ⟨h1, h2⟩ => ⟨h1, Rep.mono e d v h2⟩
  | .lst ts, v, as, f, ⟨a, vs, r, h1, h2, h3, h4⟩ => by
    subst h2
    exact ⟨a, vs, r, h1, rfl, f _ List.mem_cons_self _ h3, Owns.keep e ts _ _ (fun b hb => f b (List.mem_cons_of_mem _ hb)) h4⟩
  | .dic ks ts, v, as, f, ⟨a, vs, r, h1, h2, h3, h5, h4⟩ => by
    subst h2
    exact ⟨a, vs, r, h1, rfl, f _ List.mem_cons_self _ h3, h5, Owns.keep e ts _ _ (fun b hb => f b (List.mem_cons_of_mem _ hb)) h4⟩
  | .dit ks ts, v, as, f, ⟨a, vs, r, h1, h2, h3, h5, h4⟩ => by
    subst h2
    exact ⟨a, vs, r, h1, rfl, f _ List.mem_cons_self _ h3, h5, Owns.keep e ts _ _ (fun b hb => f b (List.mem_cons_of_mem _ hb)) h4⟩
  | .obj C fs ts, v, as, f, ⟨a, c, dx, vs, r, h1, h2, h6, h3, h5, h4⟩ => by
    subst h2
    exact ⟨a, c, dx, vs, r, h1, rfl, h6, f _ List.mem_cons_self _ h3, h5, Owns.keep e ts _ _ (fun b hb => f b (List.mem_cons_of_mem _ hb)) h4⟩
theorem Owns.keep (e : Same M M') : ∀ (ts : List T) (vs : List V) (as : List Addr), (∀ a ∈ as, ∀ o, H a = some o → H' a = some o) → Owns G M H ts vs as → Owns G M' H' ts vs as
  | [], vs, as, f, h => h
  | t :: ts, vs, as, f, ⟨v, r, a1, a2, h1, h2, h3, h4⟩ => by
    subst h2
    exact ⟨v, r, a1, a2, h1, rfl, Own.keep e t v a1 (fun b hb => f b (List.mem_append_left _ hb)) h3, Owns.keep e ts r a2 (fun b hb => f b (List.mem_append_right _ hb)) h4⟩
end
mutual
theorem Own.there : ∀ (t : T) (v : V) (as : List Addr), Own G M H t v as → ∀ a ∈ as, H a ≠ none
  | .imm d, v, as, ⟨h1, h2⟩, b, hb => by rw [h1] at hb; cases hb
  | .lst ts, v, as, ⟨a, vs, r, h1, h2, h3, h4⟩, b, hb => by
    subst h2
    rcases List.mem_cons.mp hb with z | z
    · rw [z, h3]; exact fun q => nomatch q
    · exact Owns.there ts _ _ h4 b z
  | .dic ks ts, v, as, ⟨a, vs, r, h1, h2, h3, h5, h4⟩, b, hb => by
    subst h2
    rcases List.mem_cons.mp hb with z | z
    · rw [z, h3]; exact fun q => nomatch q
    · exact Owns.there ts _ _ h4 b z
  | .dit ks ts, v, as, ⟨a, vs, r, h1, h2, h3, h5, h4⟩, b, hb => by
    subst h2
    rcases List.mem_cons.mp hb with z | z
    · rw [z, h3]; exact fun q => nomatch q
    · exact Owns.there ts _ _ h4 b z
  | .obj C fs ts, v, as, ⟨a, c, dx, vs, r, h1, h2, h6, h3, h5, h4⟩, b, hb => by
    subst h2
    rcases List.mem_cons.mp hb with z | z
    · rw [z, h3]; exact fun q => nomatch q
    · exact Owns.there ts _ _ h4 b z
theorem Owns.there : ∀ (ts : List T) (vs : List V) (as : List Addr), Owns G M H ts vs as → ∀ a ∈ as, H a ≠ none
  | [], vs, as, ⟨h1, h2⟩, b, hb => by rw [h2] at hb; cases hb
  | t :: ts, vs, as, ⟨v, r, a1, a2, h1, h2, h3, h4⟩, b, hb => by
    subst h2
    rcases List.mem_append.mp hb with z | z
    · exact Own.there t v a1 h3 b z
    · exact Owns.there ts r a2 h4 b z
end
mutual
/-- frozen -/
def fz : T → D
  | .imm d => d
  | .lst ts => .lst (fzs ts)
  | .dic ks ts => .dic ks (fzs ts)
  | .dit ks ts => .dit ks (fzs ts)
  | .obj C fs ts => .obj C fs (fzs ts)
def fzs : List T → List D
  | [] => []
  | t :: ts => fz t :: fzs ts
end
theorem fzs_map {α : Type} (e : α → T) (xs : List α) : fzs (xs.map e) = xs.map fun x => fz (e x) := by
  induction xs with
  | nil => rfl
  | cons x r ih => show fz (e x) :: fzs (r.map e) = _; rw [ih]; rfl
mutual
theorem Own.freeze (e : Same M M') : ∀ (t : T) (v : V) (as : List Addr), (∀ a ∈ as, ∀ o, H a = some o → M' a = some o) → Own G M H t v as → Rep G M' (fz t) v
  | .imm d, v, as, f, ⟨h1, h2⟩ => Rep.mono e d v h2
  | .lst ts, v, as, f, ⟨a, vs, r, h1, h2, h3, h4⟩ => by
    subst h2
    exact ⟨a, vs, h1, f _ List.mem_cons_self _ h3, Owns.freeze e ts _ _ (fun b hb => f b (List.mem_cons_of_mem _ hb)) h4⟩
  | .dic ks ts, v, as, f, ⟨a, vs, r, h1, h2, h3, h5, h4⟩ => by
    subst h2
    exact ⟨a, vs, h1, f _ List.mem_cons_self _ h3, h5, Owns.freeze e ts _ _ (fun b hb => f b (List.mem_cons_of_mem _ hb)) h4⟩
  | .dit ks ts, v, as, f, ⟨a, vs, r, h1, h2, h3, h5, h4⟩ => by
    subst h2
    exact ⟨a, vs, h1, f _ List.mem_cons_self _ h3, h5, Owns.freeze e ts _ _ (fun b hb => f b (List.mem_cons_of_mem _ hb)) h4⟩
  | .obj C fs ts, v, as, f, ⟨a, c, dx, vs, r, h1, h2, h6, h3, h5, h4⟩ => by
    subst h2
    exact ⟨a, c, dx, vs, h1, h6, f _ List.mem_cons_self _ h3, h5, Owns.freeze e ts _ _ (fun b hb => f b (List.mem_cons_of_mem _ hb)) h4⟩
theorem Owns.freeze (e : Same M M') : ∀ (ts : List T) (vs : List V) (as : List Addr), (∀ a ∈ as, ∀ o, H a = some o → M' a = some o) → Owns G M H ts vs as → Reps G M' (fzs ts) vs
  | [], vs, as, f, h => h.1
  | t :: ts, vs, as, f, ⟨v, r, a1, a2, h1, h2, h3, h4⟩ => by
    subst h2
    exact ⟨v, r, h1, Own.freeze e t v a1 (fun b hb => f b (List.mem_append_left _ hb)) h3, Owns.freeze e ts r a2 (fun b hb => f b (List.mem_append_right _ hb)) h4⟩
end
end
/-! ### lists of data by places -/
section
variable {G : Ctx} {M H : Hp}
theorem Reps.len : ∀ {ds : List D} {vs : List V}, Reps G M ds vs → vs.length = ds.length
  | [], vs, h => by rw [show vs = [] from h]; rfl
  | d :: ds, vs, ⟨v, r, h1, h2, h3⟩ => by rw [h1, List.length_cons, List.length_cons, Reps.len h3]
theorem Reps.get : ∀ {ds : List D} {vs : List V} {i : Nat} {d : D}, Reps G M ds vs → ds[i]? = some d → ∃ v, vs[i]? = some v ∧ Rep G M d v
  | [], vs, i, d, h, e => by simp at e
  | d :: ds, vs, 0, x, ⟨v, r, h1, h2, h3⟩, e => by
    have z : d = x := Option.some.inj e
    subst z; subst h1
    exact ⟨v, rfl, h2⟩
  | d :: ds, vs, i + 1, x, ⟨v, r, h1, h2, h3⟩, e => by
    subst h1
    exact Reps.get (i := i) h3 e
theorem Reps.app : ∀ {ds es : List D} {vs ws : List V}, Reps G M ds vs → Reps G M es ws → Reps G M (ds ++ es) (vs ++ ws)
  | [], es, vs, ws, h, k => by rw [show vs = [] from h]; exact k
  | d :: ds, es, vs, ws, ⟨v, r, h1, h2, h3⟩, k => ⟨v, r ++ ws, by rw [h1]; rfl, h2, Reps.app h3 k⟩
theorem Reps.drop : ∀ {ds : List D} {vs : List V} (n : Nat), Reps G M ds vs → Reps G M (ds.drop n) (vs.drop n)
  | ds, vs, 0, h => h
  | [], vs, n + 1, h => by rw [show vs = [] from h]; exact rfl
  | d :: ds, vs, n + 1, ⟨v, r, h1, h2, h3⟩ => by subst h1; exact Reps.drop n h3
theorem Reps.take : ∀ {ds : List D} {vs : List V} (n : Nat), Reps G M ds vs → Reps G M (ds.take n) (vs.take n)
  | ds, vs, 0, h => rfl
  | [], vs, n + 1, h => by rw [show vs = [] from h]; exact rfl
  | d :: ds, vs, n + 1, ⟨v, r, h1, h2, h3⟩ => by subst h1; exact ⟨v, r.take n, rfl, h2, Reps.take n h3⟩
theorem Owns.len : ∀ {ts : List T} {vs : List V} {as : List Addr}, Owns G M H ts vs as → vs.length = ts.length
  | [], vs, as, h => by rw [h.1]; rfl
  | t :: ts, vs, as, ⟨v, r, a1, a2, h1, h2, h3, h4⟩ => by rw [h1, List.length_cons, List.length_cons, Owns.len h4]
theorem Owns.get : ∀ {ts : List T} {vs : List V} {as : List Addr} {i : Nat} {t : T}, Owns G M H ts vs as → ts[i]? = some t → ∃ v a, vs[i]? = some v ∧ Own G M H t v a ∧ ∀ b ∈ a, b ∈ as
  | [], vs, as, i, t, h, e => by simp at e
  | t :: ts, vs, as, 0, x, ⟨v, r, a1, a2, h1, h2, h3, h4⟩, e => by
    have z : t = x := Option.some.inj e
    subst z; subst h1; subst h2
    exact ⟨v, a1, rfl, h3, fun b hb => List.mem_append_left _ hb⟩
  | t :: ts, vs, as, i + 1, x, ⟨v, r, a1, a2, h1, h2, h3, h4⟩, e => by
    subst h1; subst h2
    obtain ⟨w, a, q1, q2, q3⟩ := Owns.get (i := i) h4 e
    exact ⟨w, a, q1, q2, fun b hb => List.mem_append_right _ (q3 b hb)⟩
theorem Owns.app : ∀ {ts us : List T} {vs ws : List V} {as bs : List Addr}, Owns G M H ts vs as → Owns G M H us ws bs → Owns G M H (ts ++ us) (vs ++ ws) (as ++ bs)
  | [], us, vs, ws, as, bs, h, k => by rw [h.1, h.2]; exact k
  | t :: ts, us, vs, ws, as, bs, ⟨v, r, a1, a2, h1, h2, h3, h4⟩, k => ⟨v, r ++ ws, a1, a2 ++ bs, by rw [h1]; rfl, by rw [h2, List.append_assoc], h3, Owns.app h4 k⟩
theorem Owns.imm : ∀ {ds : List D} {vs : List V}, Reps G M ds vs → Owns G M H (ds.map .imm) vs []
  | [], vs, h => ⟨h, rfl⟩
  | d :: ds, vs, ⟨v, r, h1, h2, h3⟩ => ⟨v, r, [], [], h1, rfl, ⟨rfl, h2⟩, Owns.imm h3⟩
theorem Owns.of_imm : ∀ {ds : List D} {vs : List V} {as : List Addr}, Owns G M H (ds.map .imm) vs as → Reps G M ds vs ∧ as = []
  | [], vs, as, h => ⟨h.1, h.2⟩
  | d :: ds, vs, as, ⟨v, r, a1, a2, h1, h2, h3, h4⟩ => by
    obtain ⟨q1, q2⟩ := Owns.of_imm h4
    exact ⟨⟨v, r, h1, h3.2, q1⟩, by rw [h2, h3.1, q2]; rfl⟩
end
end Cn
/-! Cn1: the state of a body, judgements -/
namespace Cn
open PySem PySem.Spec L2
/-- a slot: unknown, a tree, a tree whose value is known -/
inductive Sl where
  | un
  | ow (t : T)
  | pn (v : V) (t : T)
def Sat (G : Ctx) (M H : Hp) : List Sl → St → List Addr → Prop
  | [], σ, as => σ = [] ∧ as = []
  | .un :: Γ, σ, as => ∃ x r, σ = x :: r ∧ Sat G M H Γ r as
  | .ow t :: Γ, σ, as => ∃ v r a1 a2, σ = some v :: r ∧ as = a1 ++ a2 ∧ Own G M H t v a1 ∧ Sat G M H Γ r a2
  | .pn w t :: Γ, σ, as => ∃ r a1 a2, σ = some w :: r ∧ as = a1 ++ a2 ∧ Own G M H t w a1 ∧ Sat G M H Γ r a2
structure Fr0 (F M0 M H : Hp) (as : List Addr) : Prop where
  fh : Same F H
  mm : Same M0 M
  mh : Same M H
  nw : ∀ a, M a ≠ none → M0 a ≠ none ∨ F a = none
  nd : as.Nodup
  fa : ∀ a ∈ as, F a = none
  ma : ∀ a ∈ as, M a = none
/-- the state: F what must stay, M0 what was shared at the entry, M what is shared -/
def S (G : Ctx) (F M0 M H : Hp) (σ : St) (Γ : List Sl) : Prop := ∃ as, Fr0 F M0 M H as ∧ Sat G M H Γ σ as
/-- the heap has grown -/
structure Gr (M H M' H' : Hp) : Prop where
  hh : Same H H'
  mm : Same M M'
  mh : Same M' H'
  nw : ∀ a, M' a ≠ none → M a ≠ none ∨ H a = none
theorem Gr.refl {M H : Hp} (h : Same M H) : Gr M H M H := ⟨.refl _, .refl _, h, fun _ z => .inl z⟩
theorem Gr.trans {M H M1 H1 M2 H2 : Hp} (a : Gr M H M1 H1) (b : Gr M1 H1 M2 H2) : Gr M H M2 H2 :=
  ⟨a.hh.trans b.hh, a.mm.trans b.mm, b.mh, fun x z => by
    rcases b.nw x z with q | q
    · exact a.nw x q
    · exact .inr (a.hh.free q)⟩
theorem Same.of_some {M H : Hp} (h : Same M H) {a : Addr} (z : M a ≠ none) : H a ≠ none := by
  cases e : M a with
  | none => exact absurd e z
  | some o => rw [h a o e]; exact fun q => nomatch q
section
variable {G : Ctx} {F M0 M M' H H' : Hp}
theorem Sat.keep (e : Same M M') : ∀ (Γ : List Sl) (σ : St) (as : List Addr), (∀ a ∈ as, ∀ o, H a = some o → H' a = some o) → Sat G M H Γ σ as → Sat G M' H' Γ σ as
  | [], σ, as, f, h => h
  | .un :: Γ, σ, as, f, ⟨x, r, h1, h2⟩ => ⟨x, r, h1, Sat.keep e Γ r as f h2⟩
  | .ow t :: Γ, σ, as, f, ⟨v, r, a1, a2, h1, h2, h3, h4⟩ => by
    subst h2
    exact ⟨v, r, a1, a2, h1, rfl, Own.keep e t v a1 (fun b hb => f b (List.mem_append_left _ hb)) h3, Sat.keep e Γ r a2 (fun b hb => f b (List.mem_append_right _ hb)) h4⟩
  | .pn w t :: Γ, σ, as, f, ⟨r, a1, a2, h1, h2, h3, h4⟩ => by
    subst h2
    exact ⟨r, a1, a2, h1, rfl, Own.keep e t w a1 (fun b hb => f b (List.mem_append_left _ hb)) h3, Sat.keep e Γ r a2 (fun b hb => f b (List.mem_append_right _ hb)) h4⟩
theorem Sat.there : ∀ (Γ : List Sl) (σ : St) (as : List Addr), Sat G M H Γ σ as → ∀ a ∈ as, H a ≠ none
  | [], σ, as, h, b, hb => by rw [h.2] at hb; cases hb
  | .un :: Γ, σ, as, ⟨x, r, h1, h2⟩, b, hb => Sat.there Γ r as h2 b hb
  | .ow t :: Γ, σ, as, ⟨v, r, a1, a2, h1, h2, h3, h4⟩, b, hb => by
    subst h2
    rcases List.mem_append.mp hb with z | z
    · exact Own.there t v a1 h3 b z
    · exact Sat.there Γ r a2 h4 b z
  | .pn w t :: Γ, σ, as, ⟨r, a1, a2, h1, h2, h3, h4⟩, b, hb => by
    subst h2
    rcases List.mem_append.mp hb with z | z
    · exact Own.there t w a1 h3 b z
    · exact Sat.there Γ r a2 h4 b z
theorem Fr0.grow {as : List Addr} (f : Fr0 F M0 M H as) (th : ∀ a ∈ as, H a ≠ none) (g : Gr M H M' H') : Fr0 F M0 M' H' as where
  fh := f.fh.trans g.hh
  mm := f.mm.trans g.mm
  mh := g.mh
  nw := fun a z => by
    rcases g.nw a z with q | q
    · exact f.nw a q
    · exact .inr (f.fh.free q)
  nd := f.nd
  fa := f.fa
  ma := fun a ha => by
    cases e : M' a with
    | none => rfl
    | some o =>
      rcases g.nw a (by rw [e]; exact fun q => nomatch q) with q | q
      · exact absurd (f.ma a ha) q
      · exact absurd q (th a ha)
theorem S.grow {σ : St} {Γ : List Sl} (h : S G F M0 M H σ Γ) (g : Gr M H M' H') : S G F M0 M' H' σ Γ := by
  obtain ⟨as, f, s⟩ := h
  exact ⟨as, f.grow (Sat.there Γ σ as s) g, Sat.keep g.mm Γ σ as (fun a _ o e => g.hh a o e) s⟩
theorem S.mh {σ : St} {Γ : List Sl} (h : S G F M0 M H σ Γ) : Same M H := let ⟨_, f, _⟩ := h; f.mh
theorem S.fh {σ : St} {Γ : List Sl} (h : S G F M0 M H σ Γ) : Same F H := let ⟨_, f, _⟩ := h; f.fh
/-- a slot that is read -/
theorem Sat.get : ∀ {Γ : List Sl} {σ : St} {as : List Addr} {i : Nat} {t : T}, Sat G M H Γ σ as → Γ[i]? = some (.ow t) → ∃ v a, σ[i]? = some (some v) ∧ Own G M H t v a ∧ ∀ b ∈ a, b ∈ as
  | [], σ, as, i, t, h, e => by simp at e
  | .un :: Γ, σ, as, 0, t, h, e => nomatch (Option.some.inj e)
  | .un :: Γ, σ, as, i + 1, t, ⟨x, r, h1, h2⟩, e => by
    subst h1
    exact Sat.get (i := i) h2 e
  | .ow t' :: Γ, σ, as, 0, t, ⟨v, r, a1, a2, h1, h2, h3, h4⟩, e => by
    have z : t' = t := Sl.ow.inj (Option.some.inj e)
    subst z; subst h1; subst h2
    exact ⟨v, a1, rfl, h3, fun b hb => List.mem_append_left _ hb⟩
  | .ow t' :: Γ, σ, as, i + 1, t, ⟨v, r, a1, a2, h1, h2, h3, h4⟩, e => by
    subst h1; subst h2
    obtain ⟨w, a, q1, q2, q3⟩ := Sat.get (i := i) h4 e
    exact ⟨w, a, q1, q2, fun b hb => List.mem_append_right _ (q3 b hb)⟩
  | .pn w t' :: Γ, σ, as, 0, t, h, e => nomatch (Option.some.inj e)
  | .pn w t' :: Γ, σ, as, i + 1, t, ⟨r, a1, a2, h1, h2, h3, h4⟩, e => by
    subst h1; subst h2
    obtain ⟨w, a, q1, q2, q3⟩ := Sat.get (i := i) h4 e
    exact ⟨w, a, q1, q2, fun b hb => List.mem_append_right _ (q3 b hb)⟩
theorem Sat.getP : ∀ {Γ : List Sl} {σ : St} {as : List Addr} {i : Nat} {w : V} {t : T}, Sat G M H Γ σ as → Γ[i]? = some (.pn w t) → σ[i]? = some (some w) ∧ ∃ a, Own G M H t w a ∧ ∀ b ∈ a, b ∈ as
  | [], σ, as, i, w, t, h, e => by simp at e
  | .un :: Γ, σ, as, 0, w, t, h, e => nomatch (Option.some.inj e)
  | .un :: Γ, σ, as, i + 1, w, t, ⟨x, r, h1, h2⟩, e => by
    subst h1
    exact Sat.getP (i := i) h2 e
  | .ow t' :: Γ, σ, as, 0, w, t, h, e => nomatch (Option.some.inj e)
  | .ow t' :: Γ, σ, as, i + 1, w, t, ⟨v, r, a1, a2, h1, h2, h3, h4⟩, e => by
    subst h1; subst h2
    obtain ⟨q0, a, q2, q3⟩ := Sat.getP (i := i) h4 e
    exact ⟨q0, a, q2, fun b hb => List.mem_append_right _ (q3 b hb)⟩
  | .pn w' t' :: Γ, σ, as, 0, w, t, ⟨r, a1, a2, h1, h2, h3, h4⟩, e => by
    obtain ⟨z1, z2⟩ := Sl.pn.inj (Option.some.inj e)
    subst z1; subst z2; subst h1; subst h2
    exact ⟨rfl, a1, h3, fun b hb => List.mem_append_left _ hb⟩
  | .pn w' t' :: Γ, σ, as, i + 1, w, t, ⟨r, a1, a2, h1, h2, h3, h4⟩, e => by
    subst h1; subst h2
    obtain ⟨q0, a, q2, q3⟩ := Sat.getP (i := i) h4 e
    exact ⟨q0, a, q2, fun b hb => List.mem_append_right _ (q3 b hb)⟩
/-- a slot is stored: what it owned is let go; n: the new addresses -/
theorem Sat.put : ∀ {Γ : List Sl} {σ : St} {as n : List Addr} {i : Nat} {t : T} {v : V}, Sat G M H Γ σ as → i < Γ.length → Own G M H t v n → ∃ bs l r, Sat G M H (Γ.set i (.ow t)) (σ.set i (some v)) bs ∧ bs = l ++ n ++ r ∧ (l ++ r).Sublist as
  | [], σ, as, n, i, t, v, h, hi, o => absurd hi (Nat.not_lt_zero _)
  | .un :: Γ, σ, as, n, 0, t, v, ⟨x, r, h1, h2⟩, hi, o => by
    subst h1
    exact ⟨n ++ as, [], as, ⟨v, r, n, as, rfl, rfl, o, h2⟩, rfl, by simp⟩
  | .ow t' :: Γ, σ, as, n, 0, t, v, ⟨w, r, a1, a2, h1, h2, h3, h4⟩, hi, o => by
    subst h1; subst h2
    exact ⟨n ++ a2, [], a2, ⟨v, r, n, a2, rfl, rfl, o, h4⟩, rfl, by simp⟩
  | .pn w t' :: Γ, σ, as, n, 0, t, v, ⟨r, a1, a2, h1, h2, h3, h4⟩, hi, o => by
    subst h1; subst h2
    exact ⟨n ++ a2, [], a2, ⟨v, r, n, a2, rfl, rfl, o, h4⟩, rfl, by simp⟩
  | .un :: Γ, σ, as, n, i + 1, t, v, ⟨x, r, h1, h2⟩, hi, o => by
    subst h1
    obtain ⟨bs, l, r', s, e, sub⟩ := Sat.put (i := i) h2 (Nat.lt_of_succ_lt_succ hi) o
    exact ⟨bs, l, r', ⟨x, _, rfl, s⟩, e, sub⟩
  | .ow t' :: Γ, σ, as, n, i + 1, t, v, ⟨w, r, a1, a2, h1, h2, h3, h4⟩, hi, o => by
    subst h1; subst h2
    obtain ⟨bs, l, r', s, e, sub⟩ := Sat.put (i := i) h4 (Nat.lt_of_succ_lt_succ hi) o
    subst e
    exact ⟨a1 ++ (l ++ n ++ r'), a1 ++ l, r', ⟨w, _, a1, _, rfl, rfl, h3, s⟩, by simp, by rw [List.append_assoc]; exact List.Sublist.append_left sub a1⟩
  | .pn w t' :: Γ, σ, as, n, i + 1, t, v, ⟨r, a1, a2, h1, h2, h3, h4⟩, hi, o => by
    subst h1; subst h2
    obtain ⟨bs, l, r', s, e, sub⟩ := Sat.put (i := i) h4 (Nat.lt_of_succ_lt_succ hi) o
    subst e
    exact ⟨a1 ++ (l ++ n ++ r'), a1 ++ l, r', ⟨_, a1, _, rfl, rfl, h3, s⟩, by simp, by rw [List.append_assoc]; exact List.Sublist.append_left sub a1⟩
/-- weaken a slot -/
theorem Sat.drop : ∀ {Γ : List Sl} {σ : St} {as : List Addr} {i : Nat}, Sat G M H Γ σ as → ∃ bs, Sat G M H (Γ.set i .un) σ bs ∧ bs.Sublist as
  | [], σ, as, i, h => ⟨as, h, .refl _⟩
  | .un :: Γ, σ, as, 0, ⟨x, r, h1, h2⟩ => ⟨as, ⟨x, r, h1, h2⟩, .refl _⟩
  | .ow t' :: Γ, σ, as, 0, ⟨w, r, a1, a2, h1, h2, h3, h4⟩ => ⟨a2, ⟨some w, r, h1, h4⟩, by rw [h2]; exact List.sublist_append_right _ _⟩
  | .pn w t' :: Γ, σ, as, 0, ⟨r, a1, a2, h1, h2, h3, h4⟩ => ⟨a2, ⟨some w, r, h1, h4⟩, by rw [h2]; exact List.sublist_append_right _ _⟩
  | .un :: Γ, σ, as, i + 1, ⟨x, r, h1, h2⟩ => by
    obtain ⟨bs, s, sub⟩ := Sat.drop (i := i) h2
    exact ⟨bs, ⟨x, r, h1, s⟩, sub⟩
  | .ow t' :: Γ, σ, as, i + 1, ⟨w, r, a1, a2, h1, h2, h3, h4⟩ => by
    obtain ⟨bs, s, sub⟩ := Sat.drop (i := i) h4
    exact ⟨a1 ++ bs, ⟨w, r, a1, bs, h1, rfl, h3, s⟩, by rw [h2]; exact List.Sublist.append_left sub a1⟩
  | .pn w t' :: Γ, σ, as, i + 1, ⟨r, a1, a2, h1, h2, h3, h4⟩ => by
    obtain ⟨bs, s, sub⟩ := Sat.drop (i := i) h4
    exact ⟨a1 ++ bs, ⟨r, a1, bs, h1, rfl, h3, s⟩, by rw [h2]; exact List.Sublist.append_left sub a1⟩
theorem Fr0.sub {as bs : List Addr} (f : Fr0 F M0 M H as) (s : bs.Sublist as) : Fr0 F M0 M H bs :=
  ⟨f.fh, f.mm, f.mh, f.nw, f.nd.sublist s, fun a h => f.fa a (s.subset h), fun a h => f.ma a (s.subset h)⟩
/-- fresh addresses beside the ones that are owned -/
theorem Fr0.add {as n l r : List Addr} (f : Fr0 F M0 M H as) (s : (l ++ r).Sublist as) (nn : n.Nodup) (nf : ∀ a ∈ n, F a = none) (nm : ∀ a ∈ n, M a = none) (dj : ∀ a ∈ n, a ∉ as) : Fr0 F M0 M H (l ++ n ++ r) where
  fh := f.fh
  mm := f.mm
  mh := f.mh
  nw := f.nw
  nd := by
    have h := f.nd.sublist s
    have dl : ∀ a ∈ l, a ∈ as := fun a z => s.subset (List.mem_append_left _ z)
    have dr : ∀ a ∈ r, a ∈ as := fun a z => s.subset (List.mem_append_right _ z)
    rw [List.nodup_append] at h
    rw [List.append_assoc, List.nodup_append]
    refine ⟨h.1, ?_, fun a ha b hb e => ?_⟩
    · rw [List.nodup_append]
      exact ⟨nn, h.2.1, fun a ha b hb e => dj a ha (by rw [e]; exact dr b hb)⟩
    · rcases List.mem_append.mp hb with z | z
      · exact dj b z (by rw [← e]; exact dl a ha)
      · exact h.2.2 a ha b z e
  fa := fun a h => by
    rcases List.mem_append.mp h with z | z
    · rcases List.mem_append.mp z with z | z
      · exact f.fa a (s.subset (List.mem_append_left _ z))
      · exact nf a z
    · exact f.fa a (s.subset (List.mem_append_right _ z))
  ma := fun a h => by
    rcases List.mem_append.mp h with z | z
    · rcases List.mem_append.mp z with z | z
      · exact f.ma a (s.subset (List.mem_append_left _ z))
      · exact nm a z
    · exact f.ma a (s.subset (List.mem_append_right _ z))
end
/-- what is wanted where an exception of the class c leaves -/
abbrev _root_.L2.Cx.G (X : Cx) : Ctx := ⟨X.K, X.mg⟩
def Er (G : Ctx) (W : WX) (c : Str) (σ : St) (H : Hp) : Prop := ∀ a, G.mg c = some (.ref a) → W (.ref a) none σ H
/-! the semantics' own readings -/
def wE (X : Cx) (e : Expr) : TE := fun σ H Q => ∀ pins s, Inv X pins σ H s → wpAny (model X.prog X.w) X.A (eval e X.env) (EP X pins σ Q) X.xe s
def wT (X : Cx) (e : Expr) : TT := fun σ H Q => ∀ pins s, Inv X pins σ H s → wpAny (model X.prog X.w) X.A (isTrue e X.env (eval e X.env)) (TP X pins σ Q) X.xe s
def wW (X : Cx) (e : Expr) : TT := fun σ H Q => ∀ whole pins s, Inv X pins σ H s → wpAny (model X.prog X.w) X.A (isTrue e X.env whole) (TP X pins σ Q) X.xe s
def wA (X : Cx) (es : List Expr) : TA := fun σ H Q => ∀ pos pins s, Inv X pins σ H s → wpAny (model X.prog X.w) X.A (spliced (backTo pos (starEach es X.env))) (AP X pins σ Q) X.xe s
def wS (X : Cx) (st : Stmt) : TS := fun D σ H => ∀ pins s, Inv X pins σ H s → wpAny (model X.prog X.w) X.A (exec st X.env) (SP X pins D) X.xe s
def wSs (X : Cx) (st : List Stmt) : TS := fun D σ H => ∀ pins s, Inv X pins σ H s → wpAny (model X.prog X.w) X.A (execs st X.env) (SP X pins D) X.xe s
def wI (X : Cx) (tg e : Expr) : TI := fun σ H R => ∀ pins s, Inv X pins σ H s → wpAny (model X.prog X.w) X.A (eval e X.env) (fun v s1 => wpAny (model X.prog X.w) X.A (pyIter v) (PIE X pins σ tg R) X.xe s1) X.xe s
def wG (X : Cx) (tg : Expr) : TG := fun v σ H Q => ∀ pins s u, Inv X pins σ H s → RelV v u → wpAny (model X.prog X.w) X.A (assign tg X.env u) (fun _ s' => ∃ σ' H', Inv X pins σ' H' s' ∧ Q σ' H') X.xe s
section
variable (X : Cx) (e tg : Expr) (es : List Expr) (st : Stmt) (ss : List Stmt)
theorem pe_w : PE X e (wE X e) := ⟨fun pins s σ H Q I h => h pins s I⟩
theorem pt_w : PT X e (wT X e) := ⟨fun pins s σ H Q I h => h pins s I⟩
theorem pw_w : PW X e (wW X e) := ⟨fun whole pins s σ H Q I h => h whole pins s I⟩
theorem pa_w : PA X es (wA X es) := ⟨fun pos pins s σ H Q I h => h pos pins s I⟩
theorem ps_w : PS X st (wS X st) := ⟨fun pins s σ H Q I h => h pins s I⟩
theorem pss_w : PSs X ss (wSs X ss) := ⟨fun pins s σ H Q I h => h pins s I⟩
theorem pi_w : PI X tg e (wI X tg e) := ⟨fun pins s σ H Q I h => h pins s I⟩
theorem pg_w : PG X tg (wG X tg) := ⟨fun pins s σ H v u Q I r h => h pins s u I r⟩
end
/-- a judgement: whatever is asked of the outcome holds behind it -/
structure JQ {Y : Type} (X : Cx) (Γ : List Sl) (w : St → Hp → Y → Prop) (Pre : Hp → Hp → Hp → Hp → St → Y → Prop) : Prop where
  run : ∀ F M0 M H σ Q, S X.G F M0 M H σ Γ → Pre F M0 M H σ Q → w σ H Q
instance {Y : Type} {X : Cx} {Γ : List Sl} {w : St → Hp → Y → Prop} {Pre : Hp → Hp → Hp → Hp → St → Y → Prop} : CoeFun (JQ X Γ w Pre) (fun _ => ∀ F M0 M H σ Q, S X.G F M0 M H σ Γ → Pre F M0 M H σ Q → w σ H Q) := ⟨fun h => h.run⟩
section
variable {X : Cx} {Γ : List Sl} {e tg : Expr} {es : List Expr} {st : Stmt} {ss : List Stmt}
theorem dmk {Pre : Hp → Hp → Hp → Hp → St → VK → Prop} (h : ∃ te, PE X e te ∧ ∀ F M0 M H σ Q, S X.G F M0 M H σ Γ → Pre F M0 M H σ Q → te σ H Q) : JQ X Γ (wE X e) Pre := ⟨fun F M0 M H σ Q s p pins sh I => by
  obtain ⟨te, pe, q⟩ := h
  exact pe.run pins sh σ H Q I (q F M0 M H σ Q s p)⟩
theorem tmk {Pre : Hp → Hp → Hp → Hp → St → (Bool → Hp → Prop) → Prop} (h : ∃ te, PT X e te ∧ ∀ F M0 M H σ Q, S X.G F M0 M H σ Γ → Pre F M0 M H σ Q → te σ H Q) : JQ X Γ (wT X e) Pre := ⟨fun F M0 M H σ Q s p pins sh I => by
  obtain ⟨te, pe, q⟩ := h
  exact pe.run pins sh σ H Q I (q F M0 M H σ Q s p)⟩
theorem wmk {Pre : Hp → Hp → Hp → Hp → St → (Bool → Hp → Prop) → Prop} (h : ∃ te, PW X e te ∧ ∀ F M0 M H σ Q, S X.G F M0 M H σ Γ → Pre F M0 M H σ Q → te σ H Q) : JQ X Γ (wW X e) Pre := ⟨fun F M0 M H σ Q s p wh pins sh I => by
  obtain ⟨te, pe, q⟩ := h
  exact pe.run wh pins sh σ H Q I (q F M0 M H σ Q s p)⟩
theorem amk {Pre : Hp → Hp → Hp → Hp → St → (List V → Hp → Prop) → Prop} (h : ∃ te, PA X es te ∧ ∀ F M0 M H σ Q, S X.G F M0 M H σ Γ → Pre F M0 M H σ Q → te σ H Q) : JQ X Γ (wA X es) Pre := ⟨fun F M0 M H σ Q s p pos pins sh I => by
  obtain ⟨te, pe, q⟩ := h
  exact pe.run pos pins sh σ H Q I (q F M0 M H σ Q s p)⟩
theorem smk {Pre : Hp → Hp → Hp → Hp → St → Ends → Prop} (h : ∃ te, PS X st te ∧ ∀ F M0 M H σ Q, S X.G F M0 M H σ Γ → Pre F M0 M H σ Q → te Q σ H) : JQ X Γ (fun σ H Q => wS X st Q σ H) Pre := ⟨fun F M0 M H σ Q s p pins sh I => by
  obtain ⟨te, pe, q⟩ := h
  exact pe.run pins sh σ H Q I (q F M0 M H σ Q s p)⟩
theorem bmk {Pre : Hp → Hp → Hp → Hp → St → Ends → Prop} (h : ∃ te, PSs X ss te ∧ ∀ F M0 M H σ Q, S X.G F M0 M H σ Γ → Pre F M0 M H σ Q → te Q σ H) : JQ X Γ (fun σ H Q => wSs X ss Q σ H) Pre := ⟨fun F M0 M H σ Q s p pins sh I => by
  obtain ⟨te, pe, q⟩ := h
  exact pe.run pins sh σ H Q I (q F M0 M H σ Q s p)⟩
end
/-- an expression whose value is shared data -/
abbrev DD (X : Cx) (W : WX) (Γ : List Sl) (e : Expr) {α : Type} (emb : α → D) (m : R α) : Prop :=
  JQ X Γ (wE X e) fun F M0 M H σ Q => Po m (fun x => ∀ v M' H', Gr M H M' H' → Rep X.G M' (emb x) v → Q v H') (fun c => ∀ M' H', Gr M H M' H' → Er X.G W c σ H')
/-- .. a new tree -/
abbrev DF (X : Cx) (W : WX) (Γ : List Sl) (e : Expr) {α : Type} (emb : α → T) (m : R α) : Prop :=
  JQ X Γ (wE X e) fun F M0 M H σ Q => Po m (fun x => ∀ v M' H' as, Gr M H M' H' → Own X.G M' H' (emb x) v as → as.Nodup → (∀ a ∈ as, H a = none ∧ M' a = none) → Q v H') (fun c => ∀ M' H', Gr M H M' H' → Er X.G W c σ H')
/-- .. a tree that is only looked at -/
abbrev DB (X : Cx) (W : WX) (Γ : List Sl) (e : Expr) {α : Type} (emb : α → T) (m : R α) : Prop :=
  JQ X Γ (wE X e) fun F M0 M H σ Q => Po m (fun x => ∀ v M' H' as, Gr M H M' H' → Own X.G M' H' (emb x) v as → Q v H') (fun c => ∀ M' H', Gr M H M' H' → Er X.G W c σ H')
/-- a test -/
abbrev DT (X : Cx) (W : WX) (Γ : List Sl) (e : Expr) (m : R Bool) : Prop :=
  JQ X Γ (wT X e) fun F M0 M H σ Q => Po m (fun x => ∀ M' H', Gr M H M' H' → Q x H') (fun c => ∀ M' H', Gr M H M' H' → Er X.G W c σ H')
abbrev DW (X : Cx) (W : WX) (Γ : List Sl) (e : Expr) (m : R Bool) : Prop :=
  JQ X Γ (wW X e) fun F M0 M H σ Q => Po m (fun x => ∀ M' H', Gr M H M' H' → Q x H') (fun c => ∀ M' H', Gr M H M' H' → Er X.G W c σ H')
/-- arguments -/
abbrev DA (X : Cx) (W : WX) (Γ : List Sl) (es : List Expr) {α : Type} (emb : α → List D) (m : R α) : Prop :=
  JQ X Γ (wA X es) fun F M0 M H σ Q => Po m (fun x => ∀ vs M' H', Gr M H M' H' → Reps X.G M' (emb x) vs → Q vs H') (fun c => ∀ M' H', Gr M H M' H' → Er X.G W c σ H')
/-- Γe knows no more than Γ -/
def Wk : List Sl → List Sl → Prop
  | [], [] => True
  | .un :: Γe, _ :: Γ => Wk Γe Γ
  | .ow t :: Γe, .ow t' :: Γ => t = t' ∧ Wk Γe Γ
  | .pn v t :: Γe, .pn v' t' :: Γ => v = v' ∧ t = t' ∧ Wk Γe Γ
  | .ow t :: Γe, .pn _ t' :: Γ => t = t' ∧ Wk Γe Γ
  | _, _ => False
theorem Sat.wk {G : Ctx} {M H : Hp} : ∀ {Γe Γ : List Sl} {σ : St} {as : List Addr}, Wk Γe Γ → Sat G M H Γ σ as → ∃ bs, Sat G M H Γe σ bs ∧ bs.Sublist as
  | [], [], σ, as, _, h => ⟨as, h, .refl _⟩
  | .un :: Γe, .un :: Γ, σ, as, w, ⟨x, r, h1, h2⟩ => by
    obtain ⟨bs, s, sub⟩ := Sat.wk (Γe := Γe) w h2
    exact ⟨bs, ⟨x, r, h1, s⟩, sub⟩
  | .un :: Γe, .ow t :: Γ, σ, as, w, ⟨v, r, a1, a2, h1, h2, h3, h4⟩ => by
    obtain ⟨bs, s, sub⟩ := Sat.wk (Γe := Γe) w h4
    exact ⟨bs, ⟨some v, r, h1, s⟩, by rw [h2]; exact sub.trans (List.sublist_append_right _ _)⟩
  | .un :: Γe, .pn v t :: Γ, σ, as, w, ⟨r, a1, a2, h1, h2, h3, h4⟩ => by
    obtain ⟨bs, s, sub⟩ := Sat.wk (Γe := Γe) w h4
    exact ⟨bs, ⟨some v, r, h1, s⟩, by rw [h2]; exact sub.trans (List.sublist_append_right _ _)⟩
  | .ow t :: Γe, .ow t' :: Γ, σ, as, ⟨e, w⟩, ⟨v, r, a1, a2, h1, h2, h3, h4⟩ => by
    obtain ⟨bs, s, sub⟩ := Sat.wk (Γe := Γe) w h4
    exact ⟨a1 ++ bs, ⟨v, r, a1, bs, h1, rfl, by rw [e]; exact h3, s⟩, by rw [h2]; exact List.Sublist.append_left sub a1⟩
  | .ow t :: Γe, .pn v t' :: Γ, σ, as, ⟨e, w⟩, ⟨r, a1, a2, h1, h2, h3, h4⟩ => by
    obtain ⟨bs, s, sub⟩ := Sat.wk (Γe := Γe) w h4
    exact ⟨a1 ++ bs, ⟨v, r, a1, bs, h1, rfl, by rw [e]; exact h3, s⟩, by rw [h2]; exact List.Sublist.append_left sub a1⟩
  | .pn v t :: Γe, .pn v' t' :: Γ, σ, as, ⟨e0, e, w⟩, ⟨r, a1, a2, h1, h2, h3, h4⟩ => by
    obtain ⟨bs, s, sub⟩ := Sat.wk (Γe := Γe) w h4
    exact ⟨a1 ++ bs, ⟨r, a1, bs, by rw [e0]; exact h1, rfl, by rw [e, e0]; exact h3, s⟩, by rw [h2]; exact List.Sublist.append_left sub a1⟩
theorem S.wk {G : Ctx} {F M0 M H : Hp} {σ : St} {Γe Γ : List Sl} (w : Wk Γe Γ) (h : S G F M0 M H σ Γ) : S G F M0 M H σ Γe := by
  obtain ⟨as, f, s⟩ := h
  obtain ⟨bs, s', sub⟩ := Sat.wk w s
  exact ⟨bs, f.sub sub, s'⟩
end Cn
/-! Cn2: expressions -/
namespace Cn
open PySem PySem.Spec L2
def isStar : Expr → Bool
  | .Starred _ _ => true
  | _ => false
theorem star_cons {e : Expr} {es : List Expr} {env : Env} (h : isStar e = false) : starEach (e :: es) env = (false, eval e env) :: starEach es env := by
  cases e with
  | Starred _ _ => cases h
  | _ => rfl
theorem star_one {e : Expr} {env : Env} (h : isStar e = false) : starEach [e] env = [(false, eval e env)] := star_cons h
def noStar : List Expr → Bool
  | [] => true
  | e :: es => !isStar e && noStar es
theorem star_none {pos : Pos} {es : List Expr} {env : Env} (h : noStar es = true) : (backTo pos (starEach es env)).any (·.1) = false := by
  induction es with
  | nil => rfl
  | cons e es ih =>
    have h : (!isStar e && noStar es) = true := h
    rw [Bool.and_eq_true] at h
    rw [star_cons (by cases z : isStar e with
      | true => rw [z] at h; cases h.1
      | false => rfl)]
    exact ih h.2
section
variable {X : Cx} {W : WX} {Γ : List Sl} {a b e : Expr} {es : List Expr} {α β γ : Type} {pos : Pos}
/-! ### from one kind to another -/
theorem db_of_dd {emb : α → D} {m : R α} (h : DD X W Γ e emb m) : DB X W Γ e (fun x => .imm (emb x)) m := by
  have p := pe_w X e; have q := h
  exact dmk ⟨_, p, fun F M0 M H σ Q s po => q F M0 M H σ Q s (po.imp (fun x _ k v M' H' g r => k v M' H' [] g ⟨rfl, r⟩) fun _ z => z)⟩
theorem df_of_dd {emb : α → D} {m : R α} (h : DD X W Γ e emb m) : DF X W Γ e (fun x => .imm (emb x)) m := by
  have p := pe_w X e; have q := h
  exact dmk ⟨_, p, fun F M0 M H σ Q s po => q F M0 M H σ Q s (po.imp (fun x _ k v M' H' g r => k v M' H' [] g ⟨rfl, r⟩ List.nodup_nil (fun _ z => nomatch z)) fun _ z => z)⟩
theorem db_of_df {emb : α → T} {m : R α} (h : DF X W Γ e emb m) : DB X W Γ e emb m := by
  have p := pe_w X e; have q := h
  exact dmk ⟨_, p, fun F M0 M H σ Q s po => q F M0 M H σ Q s (po.imp (fun x _ k v M' H' as g o _ _ => k v M' H' as g o) fun _ z => z)⟩
/-- fresh addresses are given away -/
theorem gr_freeze {M H M1 H1 : Hp} {as : List Addr} (g : Gr M H M1 H1) (th : ∀ a ∈ as, H1 a ≠ none) (fr : ∀ a ∈ as, H a = none ∧ M1 a = none) :
    ∃ M2, Gr M H M2 H1 ∧ Same M1 M2 ∧ ∀ a ∈ as, ∀ o, H1 a = some o → M2 a = some o := by
  refine ⟨fun a => if a ∈ as then H1 a else M1 a, ⟨g.hh, fun b o e => ?_, fun b o e => ?_, fun b z => ?_⟩, fun b o e => ?_, fun b hb o e => ?_⟩
  · show (if b ∈ as then H1 b else M1 b) = some o
    by_cases hb : b ∈ as
    · have := (fr b hb).2
      rw [g.mm b o e] at this; cases this
    · rw [if_neg hb]; exact g.mm b o e
  · have e' : (if b ∈ as then H1 b else M1 b) = some o := e
    by_cases hb : b ∈ as
    · rw [if_pos hb] at e'; exact e'
    · rw [if_neg hb] at e'; exact g.mh b o e'
  · have z' : (if b ∈ as then H1 b else M1 b) ≠ none := z
    by_cases hb : b ∈ as
    · exact .inr (fr b hb).1
    · rw [if_neg hb] at z'; exact g.nw b z'
  · show (if b ∈ as then H1 b else M1 b) = some o
    by_cases hb : b ∈ as
    · have := (fr b hb).2
      rw [e] at this; cases this
    · rw [if_neg hb]; exact e
  · show (if b ∈ as then H1 b else M1 b) = some o
    rw [if_pos hb]; exact e
theorem dd_of_df {emb : α → T} {emb' : α → D} {m : R α} (h : DF X W Γ e emb m) (he : ∀ x, fz (emb x) = emb' x) : DD X W Γ e emb' m := by
  have p := pe_w X e; have q := h
  refine dmk ⟨_, p, fun F M0 M H σ Q s po => q F M0 M H σ Q s (po.imp (fun x _ k v M' H' as g o nd fr => ?_) fun _ z => z)⟩
  obtain ⟨M2, g2, s2, k2⟩ := gr_freeze g (Own.there _ _ _ o) fr
  refine k v M2 H' g2 ?_
  rw [← he]
  exact Own.freeze s2 _ _ _ k2 o
theorem dd_imm {emb : α → D} {m : R α} (h : DF X W Γ e (fun x => .imm (emb x)) m) : DD X W Γ e emb m := dd_of_df h fun _ => rfl
theorem fz_list {ε : α → D} (xs : List α) : fz (.lst (xs.map fun x => .imm (ε x))) = .lst (xs.map ε) := by
  show D.lst (fzs _) = _
  rw [fzs_map]
  rfl
theorem dd_list {ε : β → D} {m : R (List β)} (h : DF X W Γ e (fun xs => .lst (xs.map fun x => .imm (ε x))) m) : DD X W Γ e (fun xs => .lst (xs.map ε)) m := dd_of_df h fun xs => fz_list xs
/-! ### names and constants -/
theorem dd_var {emb : α → D} {x : α} {n : Str} (i : Nat) (h : Γ[i]? = some (.ow (.imm (emb x)))) (hN : X.N[i]? = some n := by rfl) (hv : Vis X.env.scope n := by first | exact Or.inl rfl | exact Or.inr (Or.inl rfl) | exact Or.inr (Or.inr rfl))
    (hd : (n == ("__debug__" : Str)) = false := by decide) (hcd : (n == ("__classdict__" : Str)) = false := by decide) : DD X W Γ (.Name n pos) emb (.ok x) := dmk
  ⟨_, pe_var hN hv hd hcd, fun F M0 M H σ Q s po => by
    obtain ⟨as, f, sa⟩ := s
    obtain ⟨v, a, h1, h2, h3⟩ := Sat.get sa h
    exact ⟨v, h1, po v M H (.refl f.mh) h2.2⟩⟩
theorem db_var {emb : α → T} {x : α} {n : Str} (i : Nat) (h : Γ[i]? = some (.ow (emb x))) (hN : X.N[i]? = some n := by rfl) (hv : Vis X.env.scope n := by first | exact Or.inl rfl | exact Or.inr (Or.inl rfl) | exact Or.inr (Or.inr rfl))
    (hd : (n == ("__debug__" : Str)) = false := by decide) (hcd : (n == ("__classdict__" : Str)) = false := by decide) : DB X W Γ (.Name n pos) emb (.ok x) := dmk
  ⟨_, pe_var hN hv hd hcd, fun F M0 M H σ Q s po => by
    obtain ⟨as, f, sa⟩ := s
    obtain ⟨v, a, h1, h2, h3⟩ := Sat.get sa h
    exact ⟨v, h1, po v M H a (.refl f.mh) h2⟩⟩
theorem dd_c {v : V} {d : α → D} {x : α} (p : PE X e (tC v)) (r : ∀ M, Rep X.G M (d x) v) : DD X W Γ e d (.ok x) := dmk
  ⟨_, p, fun F M0 M H σ Q s po => po v M H (.refl s.mh) (r M)⟩
theorem dd_int {i : Int} {j} : DD X W Γ (.Constant (.int i) j pos) D.int (.ok i) := dd_c pe_int fun _ => rfl
theorem dd_bl {i : Bool} {j} : DD X W Γ (.Constant (.bool i) j pos) D.bl (.ok i) := dd_c pe_bl fun _ => rfl
theorem dd_str {i : Str} {j} : DD X W Γ (.Constant (.str i) j pos) D.str (.ok i) := dd_c pe_str fun _ => rfl
theorem dd_non {j} : DD X W Γ (.Constant .none j pos) (fun _ : Unit => D.non) (.ok ()) := dd_c pe_non fun _ => rfl
theorem dd_gint {i : Int} {t : Tok} {n : Str} (hm : X.mg n = some (.int i t)) (hg : Gl X n := by rfl) (hd : (n == ("__debug__" : Str)) = false := by decide) : DD X W Γ (.Name n pos) D.int (.ok i) := dd_c (pe_glob (v := .int i) hg hm ⟨t, rfl⟩ hd) fun _ => rfl
/-! ### two operands -/
def ofO {γ : Type} : Option γ → R γ
  | none => .bad
  | some z => .ok z
theorem Po.ofO {γ : Type} {o : Option γ} {Q : γ → Prop} {E : Str → Prop} (h : Po (ofO o) Q E) : ∃ z, o = some z ∧ Q z := by
  cases o with
  | none => exact h.elim
  | some z => exact ⟨z, rfl, h⟩
/-- what is wanted of a value that stands for z: for shared data, for a new tree -/
abbrev WD (G : Ctx) (M H : Hp) (d : D) (Q : VK) : Prop := ∀ v M' H', Gr M H M' H' → Rep G M' d v → Q v H'
abbrev WF (G : Ctx) (M H : Hp) (t : T) (Q : VK) : Prop := ∀ v M' H' as, Gr M H M' H' → Own G M' H' t v as → as.Nodup → (∀ a ∈ as, H a = none ∧ M' a = none) → Q v H'
/-- what an operator's rule makes of data -/
def Op2 (G : Ctx) (r : R2) (ea : α → D) (eb : β → D) (er : γ → D) (f : α → β → Option γ) : Prop :=
  ∀ x y z (M H : Hp) v w (Q : VK), Same M H → Rep G M (ea x) v → Rep G M (eb y) w → f x y = some z → WD G M H (er z) Q → r v w H Q
/-- .. of trees that are looked at; a new tree -/
def Op2F (G : Ctx) (r : R2) (ea : α → T) (eb : β → T) (er : γ → T) (f : α → β → Option γ) : Prop :=
  ∀ x y z (M H : Hp) v w as bs (Q : VK), Same M H → Own G M H (ea x) v as → Own G M H (eb y) w bs → f x y = some z → WF G M H (er z) Q → r v w H Q
def Op2B (G : Ctx) (r : R2) (ea : α → T) (eb : β → T) (er : γ → D) (f : α → β → Option γ) : Prop :=
  ∀ x y z (M H : Hp) v w as bs (Q : VK), Same M H → Own G M H (ea x) v as → Own G M H (eb y) w bs → f x y = some z → WD G M H (er z) Q → r v w H Q
theorem two_dd {ta tb : TE} {r : R2} {ea : α → D} {eb : β → D} {er : γ → D} {f : α → β → Option γ} {ma : R α} {mb : R β} (hr : Op2 X.G r ea eb er f) {F M0 M H : Hp} {σ : St} {Q : VK}
    (qa : ∀ F M0 M H σ Q, S X.G F M0 M H σ Γ → Po ma (fun x => WD X.G M H (ea x) Q) (fun c => ∀ M' H', Gr M H M' H' → Er X.G W c σ H') → ta σ H Q)
    (qb : ∀ F M0 M H σ Q, S X.G F M0 M H σ Γ → Po mb (fun x => WD X.G M H (eb x) Q) (fun c => ∀ M' H', Gr M H M' H' → Er X.G W c σ H') → tb σ H Q)
    (s : S X.G F M0 M H σ Γ) (po : Po (ma >>= fun x => mb >>= fun y => ofO (f x y)) (fun x => WD X.G M H (er x) Q) (fun c => ∀ M' H', Gr M H M' H' → Er X.G W c σ H')) :
    tOp r ta tb σ H Q := by
  refine qa F M0 M H σ _ s (po.bind.imp (fun x _ k v M1 H1 g1 r1 => ?_) fun _ z => z)
  refine qb F M0 M1 H1 σ _ (s.grow g1) (k.bind.imp (fun y _ k w M2 H2 g2 r2 => ?_) fun c z M' H' g => z M' H' (g1.trans g))
  obtain ⟨z, e, k⟩ := k.ofO
  exact hr x y z M2 H2 v w Q g2.mh (Rep.mono g2.mm _ _ r1) r2 e fun v' M' H' g q => k v' M' H' ((g1.trans g2).trans g) q
theorem two_db {ta tb : TE} {r : R2} {ea : α → T} {eb : β → T} {er : γ → D} {f : α → β → Option γ} {ma : R α} {mb : R β} (hr : Op2B X.G r ea eb er f) {F M0 M H : Hp} {σ : St} {Q : VK}
    (qa : ∀ F M0 M H σ Q, S X.G F M0 M H σ Γ → Po ma (fun x => ∀ v M' H' as, Gr M H M' H' → Own X.G M' H' (ea x) v as → Q v H') (fun c => ∀ M' H', Gr M H M' H' → Er X.G W c σ H') → ta σ H Q)
    (qb : ∀ F M0 M H σ Q, S X.G F M0 M H σ Γ → Po mb (fun x => ∀ v M' H' as, Gr M H M' H' → Own X.G M' H' (eb x) v as → Q v H') (fun c => ∀ M' H', Gr M H M' H' → Er X.G W c σ H') → tb σ H Q)
    (s : S X.G F M0 M H σ Γ) (po : Po (ma >>= fun x => mb >>= fun y => ofO (f x y)) (fun x => WD X.G M H (er x) Q) (fun c => ∀ M' H', Gr M H M' H' → Er X.G W c σ H')) :
    tOp r ta tb σ H Q := by
  refine qa F M0 M H σ _ s (po.bind.imp (fun x _ k v M1 H1 as g1 r1 => ?_) fun _ z => z)
  refine qb F M0 M1 H1 σ _ (s.grow g1) (k.bind.imp (fun y _ k w M2 H2 bs g2 r2 => ?_) fun c z M' H' g => z M' H' (g1.trans g))
  obtain ⟨z, e, k⟩ := k.ofO
  exact hr x y z M2 H2 v w as bs Q g2.mh (Own.keep g2.mm _ _ _ (fun a _ o q => g2.hh a o q) r1) r2 e fun v' M' H' g q => k v' M' H' ((g1.trans g2).trans g) q
theorem two_df {ta tb : TE} {r : R2} {ea : α → T} {eb : β → T} {er : γ → T} {f : α → β → Option γ} {ma : R α} {mb : R β} (hr : Op2F X.G r ea eb er f) {F M0 M H : Hp} {σ : St} {Q : VK}
    (qa : ∀ F M0 M H σ Q, S X.G F M0 M H σ Γ → Po ma (fun x => ∀ v M' H' as, Gr M H M' H' → Own X.G M' H' (ea x) v as → Q v H') (fun c => ∀ M' H', Gr M H M' H' → Er X.G W c σ H') → ta σ H Q)
    (qb : ∀ F M0 M H σ Q, S X.G F M0 M H σ Γ → Po mb (fun x => ∀ v M' H' as, Gr M H M' H' → Own X.G M' H' (eb x) v as → Q v H') (fun c => ∀ M' H', Gr M H M' H' → Er X.G W c σ H') → tb σ H Q)
    (s : S X.G F M0 M H σ Γ) (po : Po (ma >>= fun x => mb >>= fun y => ofO (f x y)) (fun x => WF X.G M H (er x) Q) (fun c => ∀ M' H', Gr M H M' H' → Er X.G W c σ H')) :
    tOp r ta tb σ H Q := by
  refine qa F M0 M H σ _ s (po.bind.imp (fun x _ k v M1 H1 as g1 r1 => ?_) fun _ z => z)
  refine qb F M0 M1 H1 σ _ (s.grow g1) (k.bind.imp (fun y _ k w M2 H2 bs g2 r2 => ?_) fun c z M' H' g => z M' H' (g1.trans g))
  obtain ⟨z, e, k⟩ := k.ofO
  exact hr x y z M2 H2 v w as bs Q g2.mh (Own.keep g2.mm _ _ _ (fun a _ o q => g2.hh a o q) r1) r2 e fun v' M' H' cs g q nd fr => k v' M' H' cs ((g1.trans g2).trans g) q nd fun a ha => ⟨(g1.hh.trans g2.hh).free (fr a ha).1, (fr a ha).2⟩
section
variable {r : R2} {op : Operator} {cop : CmpOp}
theorem dd_op {ea : α → D} {eb : β → D} {er : γ → D} {f : α → β → Option γ} {ma : R α} {mb : R β} (hr : Op2 X.G r ea eb er f) (ho : OpR X (binaryOp op) r) (ha : DD X W Γ a ea ma) (hb : DD X W Γ b eb mb) :
    DD X W Γ (.BinOp a op b pos) er (ma >>= fun x => mb >>= fun y => ofO (f x y)) := by
  have pa := pe_w X a; have qa := ha
  have pb := pe_w X b; have qb := hb
  exact dmk ⟨_, pe_op ho pa pb, fun F M0 M H σ Q s po => two_dd hr qa qb s po⟩
theorem df_op {ea : α → T} {eb : β → T} {er : γ → T} {f : α → β → Option γ} {ma : R α} {mb : R β} (hr : Op2F X.G r ea eb er f) (ho : OpR X (binaryOp op) r) (ha : DB X W Γ a ea ma) (hb : DB X W Γ b eb mb) :
    DF X W Γ (.BinOp a op b pos) er (ma >>= fun x => mb >>= fun y => ofO (f x y)) := by
  have pa := pe_w X a; have qa := ha
  have pb := pe_w X b; have qb := hb
  exact dmk ⟨_, pe_op ho pa pb, fun F M0 M H σ Q s po => two_df hr qa qb s po⟩
theorem dd_cmp {ea : α → D} {eb : β → D} {f : α → β → Option Bool} {ma : R α} {mb : R β} (hr : Op2 X.G r ea eb D.bl f) (ho : OpR X (compareOp cop) r) (hm : behindInMarks cop b = false) (ha : DD X W Γ a ea ma) (hb : DD X W Γ b eb mb) :
    DD X W Γ (.Compare a [cop] [b] pos) D.bl (ma >>= fun x => mb >>= fun y => ofO (f x y)) := by
  have pa := pe_w X a; have qa := ha
  have pb := pe_w X b; have qb := hb
  exact dmk ⟨_, pe_cmpR ho pa pb hm, fun F M0 M H σ Q s po => two_dd hr qa qb s po⟩
theorem dt_cmp {ea : α → D} {eb : β → D} {f : α → β → Option Bool} {ma : R α} {mb : R β} (hr : Op2 X.G r ea eb D.bl f) (ho : OpR X (compareOp cop) r) (hm : behindInMarks cop b = false) (ha : DD X W Γ a ea ma) (hb : DD X W Γ b eb mb) :
    DT X W Γ (.Compare a [cop] [b] pos) (ma >>= fun x => mb >>= fun y => ofO (f x y)) := by
  have pa := pe_w X a; have qa := ha
  have pb := pe_w X b; have qb := hb
  exact tmk ⟨_, pt_cmpR ho pa pb hm, fun F M0 M H σ Q s po => two_dd hr qa qb s (po.imp (fun x _ k v M' H' g q => ⟨x, q, k M' H' g⟩) fun _ z => z)⟩
theorem db_cmp {ea : α → T} {eb : β → T} {f : α → β → Option Bool} {ma : R α} {mb : R β} (hr : Op2B X.G r ea eb D.bl f) (ho : OpR X (compareOp cop) r) (hm : behindInMarks cop b = false) (ha : DB X W Γ a ea ma) (hb : DB X W Γ b eb mb) :
    DD X W Γ (.Compare a [cop] [b] pos) D.bl (ma >>= fun x => mb >>= fun y => ofO (f x y)) := by
  have pa := pe_w X a; have qa := ha
  have pb := pe_w X b; have qb := hb
  exact dmk ⟨_, pe_cmpR ho pa pb hm, fun F M0 M H σ Q s po => two_db hr qa qb s po⟩
theorem dt_cmpB {ea : α → T} {eb : β → T} {f : α → β → Option Bool} {ma : R α} {mb : R β} (hr : Op2B X.G r ea eb D.bl f) (ho : OpR X (compareOp cop) r) (hm : behindInMarks cop b = false) (ha : DB X W Γ a ea ma) (hb : DB X W Γ b eb mb) :
    DT X W Γ (.Compare a [cop] [b] pos) (ma >>= fun x => mb >>= fun y => ofO (f x y)) := by
  have pa := pe_w X a; have qa := ha
  have pb := pe_w X b; have qb := hb
  exact tmk ⟨_, pt_cmpR ho pa pb hm, fun F M0 M H σ Q s po => two_db hr qa qb s (po.imp (fun x _ k v M' H' g q => ⟨x, q, k M' H' g⟩) fun _ z => z)⟩
end
/-! ### ints -/
theorem o2_I0 {G : Ctx} {g : Int → Int → Int} : Op2 G (rI0 fun i j => .int (g i j)) D.int D.int D.int fun i j => some (g i j) := fun x y z M H v w Q mh hv hw e k =>
  ⟨x, y, hv, hw, k _ M H (.refl mh) (by rw [← Option.some.inj e]; rfl)⟩
theorem o2_B0 {G : Ctx} {g : Int → Int → Bool} : Op2 G (rI0 fun i j => .bl (g i j)) D.int D.int D.bl fun i j => some (g i j) := fun x y z M H v w Q mh hv hw e k =>
  ⟨x, y, hv, hw, k _ M H (.refl mh) (by rw [← Option.some.inj e]; rfl)⟩
theorem o2_I {G : Ctx} {C : Int → Int → Prop} {h : ∀ i j, Decidable (C i j)} {g : Int → Int → Int} : Op2 G (rI C fun i j => .int (g i j)) D.int D.int D.int fun i j => @ite _ (C i j) (h i j) (some (g i j)) none := fun x y z M H v w Q mh hv hw e k => by
  have e : (@ite _ (C x y) (h x y) (some (g x y)) none) = some z := e
  by_cases c : C x y
  · rw [if_pos c] at e
    exact ⟨x, y, hv, hw, c, k _ M H (.refl mh) (by rw [← Option.some.inj e]; rfl)⟩
  · rw [if_neg c] at e; cases e
/-- the condition is known of the operand that is written there -/
theorem o2_IP {G : Ctx} {C : Int → Int → Prop} {P : Int → Int → Prop} {g : Int → Int → Int} (h : ∀ i j, P i j → C i j) : ∀ x y z (M H : Hp) v w (Q : VK), Same M H → P x y → Rep G M (D.int x) v → Rep G M (D.int y) w → g x y = z → WD G M H (D.int z) Q → (rI C fun i j => .int (g i j)) v w H Q := fun x y z M H v w Q mh p hv hw e k =>
  ⟨x, y, hv, hw, h _ _ p, k _ M H (.refl mh) (by rw [← e]; rfl)⟩
section
variable {ma mb : R Int}
theorem dd_add (ha : DD X W Γ a D.int ma) (hb : DD X W Γ b D.int mb) : DD X W Γ (.BinOp a .Add b pos) D.int (ma >>= fun x => mb >>= fun y => .ok (x + y)) := dd_op o2_I0 op_add ha hb
theorem dd_sub (ha : DD X W Γ a D.int ma) (hb : DD X W Γ b D.int mb) : DD X W Γ (.BinOp a .Sub b pos) D.int (ma >>= fun x => mb >>= fun y => .ok (x - y)) := dd_op o2_I0 op_sub ha hb
theorem dd_and (ha : DD X W Γ a D.int ma) (hb : DD X W Γ b D.int mb) : DD X W Γ (.BinOp a .BitAnd b pos) D.int (ma >>= fun x => mb >>= fun y => .ok (Builtin.bitAnd x y)) := dd_op o2_I0 op_and ha hb
theorem dd_or (ha : DD X W Γ a D.int ma) (hb : DD X W Γ b D.int mb) : DD X W Γ (.BinOp a .BitOr b pos) D.int (ma >>= fun x => mb >>= fun y => .ok (Builtin.bitOr x y)) := dd_op o2_I0 op_or ha hb
theorem dd_xor (ha : DD X W Γ a D.int ma) (hb : DD X W Γ b D.int mb) : DD X W Γ (.BinOp a .BitXor b pos) D.int (ma >>= fun x => mb >>= fun y => .ok (Builtin.bitXor x y)) := dd_op o2_I0 op_xor ha hb
instance decMul (i j : Int) : Decidable (CMul i j) := by unfold CMul; infer_instance
instance decPow (i j : Int) : Decidable (CPow i j) := by unfold CPow; infer_instance
instance decDiv (i j : Int) : Decidable (CDiv i j) := by unfold CDiv; infer_instance
noncomputable def mulO (i j : Int) : Option Int := @ite _ (CMul i j) (Classical.propDecidable _) (some (i * j)) none
noncomputable def powO (i j : Int) : Option Int := @ite _ (CPow i j) (Classical.propDecidable _) (some (i ^ j.toNat)) none
noncomputable def shlO (i j : Int) : Option Int := @ite _ (CPow i j) (Classical.propDecidable _) (some (i * 2 ^ j.toNat)) none
noncomputable def shrO (i j : Int) : Option Int := @ite _ (0 ≤ j) (Classical.propDecidable _) (some (i / 2 ^ j.toNat)) none
noncomputable def divO (i j : Int) : Option Int := @ite _ (CDiv i j) (Classical.propDecidable _) (some (i / j)) none
noncomputable def modO (i j : Int) : Option Int := @ite _ (0 < j) (Classical.propDecidable _) (some (i % j)) none
theorem dd_mul (ha : DD X W Γ a D.int ma) (hb : DD X W Γ b D.int mb) : DD X W Γ (.BinOp a .Mult b pos) D.int (ma >>= fun x => mb >>= fun y => ofO (mulO x y)) := dd_op o2_I op_mul ha hb
theorem dd_pow (ha : DD X W Γ a D.int ma) (hb : DD X W Γ b D.int mb) : DD X W Γ (.BinOp a .Pow b pos) D.int (ma >>= fun x => mb >>= fun y => ofO (powO x y)) := dd_op o2_I op_pow ha hb
theorem dd_shl (ha : DD X W Γ a D.int ma) (hb : DD X W Γ b D.int mb) : DD X W Γ (.BinOp a .LShift b pos) D.int (ma >>= fun x => mb >>= fun y => ofO (shlO x y)) := dd_op o2_I op_shl ha hb
theorem dd_shr (ha : DD X W Γ a D.int ma) (hb : DD X W Γ b D.int mb) : DD X W Γ (.BinOp a .RShift b pos) D.int (ma >>= fun x => mb >>= fun y => ofO (shrO x y)) := dd_op o2_I op_shr ha hb
theorem dd_div (ha : DD X W Γ a D.int ma) (hb : DD X W Γ b D.int mb) : DD X W Γ (.BinOp a .FloorDiv b pos) D.int (ma >>= fun x => mb >>= fun y => ofO (divO x y)) := dd_op o2_I op_fdiv ha hb
theorem dd_mod (ha : DD X W Γ a D.int ma) (hb : DD X W Γ b D.int mb) : DD X W Γ (.BinOp a .Mod b pos) D.int (ma >>= fun x => mb >>= fun y => ofO (modO x y)) := dd_op o2_I op_mod ha hb
theorem mulO_r {x y : Int} (h : -(2 ^ 64) < y ∧ y < 2 ^ 64) : mulO x y = some (x * y) := if_pos (.inr h)
theorem mulO_l {x y : Int} (h : -(2 ^ 64) < x ∧ x < 2 ^ 64) : mulO x y = some (x * y) := if_pos (.inl h)
theorem divO_c {x y : Int} (h : 0 < y ∧ y < 1073741824) : divO x y = some (x / y) := if_pos h
theorem modO_c {x y : Int} (h : 0 < y) : modO x y = some (x % y) := if_pos h
theorem shrO_c {x y : Int} (h : 0 ≤ y) : shrO x y = some (x / 2 ^ y.toNat) := if_pos h
/-- a written operand on the right | on the left -/
theorem op_right {op : Operator} {f : Int → Int → Option Int} {g : Int → Int → Int} {y : Int} (h : DD X W Γ (.BinOp a op b pos) D.int (ma >>= fun x => (R.ok y) >>= fun y => ofO (f x y))) (e : ∀ x, f x y = some (g x y)) : DD X W Γ (.BinOp a op b pos) D.int (ma >>= fun x => .ok (g x y)) := by
  have z : (ma >>= fun x => (R.ok y) >>= fun y => ofO (f x y)) = (ma >>= fun x => R.ok (g x y)) := by
    congr 1; funext x
    show ofO (f x y) = _
    rw [e]; rfl
  rw [← z]; exact h
theorem dd_mulC {y : Int} (ha : DD X W Γ a D.int ma) (hb : DD X W Γ b D.int (.ok y)) (h : -(2 ^ 64) < y ∧ y < 2 ^ 64) : DD X W Γ (.BinOp a .Mult b pos) D.int (ma >>= fun x => .ok (x * y)) := op_right (g := fun x y => x * y) (dd_mul ha hb) fun _ => mulO_r h
theorem dd_divC {y : Int} (ha : DD X W Γ a D.int ma) (hb : DD X W Γ b D.int (.ok y)) (h : 0 < y ∧ y < 1073741824) : DD X W Γ (.BinOp a .FloorDiv b pos) D.int (ma >>= fun x => .ok (x / y)) := op_right (g := fun x y => x / y) (dd_div ha hb) fun _ => divO_c h
theorem dd_modC {y : Int} (ha : DD X W Γ a D.int ma) (hb : DD X W Γ b D.int (.ok y)) (h : 0 < y) : DD X W Γ (.BinOp a .Mod b pos) D.int (ma >>= fun x => .ok (x % y)) := op_right (g := fun x y => x % y) (dd_mod ha hb) fun _ => modO_c h
theorem dd_shrC {y : Int} (ha : DD X W Γ a D.int ma) (hb : DD X W Γ b D.int (.ok y)) (h : 0 ≤ y) : DD X W Γ (.BinOp a .RShift b pos) D.int (ma >>= fun x => .ok (x / 2 ^ y.toNat)) := op_right (g := fun x y => x / 2 ^ y.toNat) (dd_shr ha hb) fun _ => shrO_c h
theorem dd_powC {x y z : Int} (ha : DD X W Γ a D.int (.ok x)) (hb : DD X W Γ b D.int (.ok y)) (h : powO x y = some z) : DD X W Γ (.BinOp a .Pow b pos) D.int (.ok z) := by
  have q := dd_pow (pos := pos) ha hb
  have e : ((R.ok x) >>= fun x => (R.ok y) >>= fun y => ofO (powO x y)) = R.ok z := by
    show ofO (powO x y) = _
    rw [h]; rfl
  rw [e] at q; exact q
/-! comparisons of ints: f is decide of it -/
variable {cop : CmpOp} {r : R2}
theorem dd_lt (ha : DD X W Γ a D.int ma) (hb : DD X W Γ b D.int mb) : DD X W Γ (.Compare a [.Lt] [b] pos) D.bl (ma >>= fun x => mb >>= fun y => .ok (decide (x < y))) := dd_cmp o2_B0 op_lt (nomark _) ha hb
theorem dd_le (ha : DD X W Γ a D.int ma) (hb : DD X W Γ b D.int mb) : DD X W Γ (.Compare a [.LtE] [b] pos) D.bl (ma >>= fun x => mb >>= fun y => .ok (decide (x ≤ y))) := dd_cmp o2_B0 op_le (nomark _) ha hb
theorem dd_gt (ha : DD X W Γ a D.int ma) (hb : DD X W Γ b D.int mb) : DD X W Γ (.Compare a [.Gt] [b] pos) D.bl (ma >>= fun x => mb >>= fun y => .ok (decide (y < x))) := dd_cmp o2_B0 op_gt (nomark _) ha hb
theorem dd_ge (ha : DD X W Γ a D.int ma) (hb : DD X W Γ b D.int mb) : DD X W Γ (.Compare a [.GtE] [b] pos) D.bl (ma >>= fun x => mb >>= fun y => .ok (decide (y ≤ x))) := dd_cmp o2_B0 op_ge (nomark _) ha hb
theorem dt_lt (ha : DD X W Γ a D.int ma) (hb : DD X W Γ b D.int mb) : DT X W Γ (.Compare a [.Lt] [b] pos) (ma >>= fun x => mb >>= fun y => .ok (decide (x < y))) := dt_cmp o2_B0 op_lt (nomark _) ha hb
theorem dt_le (ha : DD X W Γ a D.int ma) (hb : DD X W Γ b D.int mb) : DT X W Γ (.Compare a [.LtE] [b] pos) (ma >>= fun x => mb >>= fun y => .ok (decide (x ≤ y))) := dt_cmp o2_B0 op_le (nomark _) ha hb
theorem dt_gt (ha : DD X W Γ a D.int ma) (hb : DD X W Γ b D.int mb) : DT X W Γ (.Compare a [.Gt] [b] pos) (ma >>= fun x => mb >>= fun y => .ok (decide (y < x))) := dt_cmp o2_B0 op_gt (nomark _) ha hb
theorem dt_ge (ha : DD X W Γ a D.int ma) (hb : DD X W Γ b D.int mb) : DT X W Γ (.Compare a [.GtE] [b] pos) (ma >>= fun x => mb >>= fun y => .ok (decide (y ≤ x))) := dt_cmp o2_B0 op_ge (nomark _) ha hb
theorem o2_eqI {G : Ctx} : Op2 G rEq D.int D.int D.bl fun i j => some (decide (i = j)) := fun x y z M H v w Q mh hv hw e k => by
  rw [show v = .int x from hv, show w = .int y from hw]
  refine ⟨rfl, k _ M H (.refl mh) ?_⟩
  rw [← Option.some.inj e]
  show V.bl _ = V.bl _
  congr 1
  simp
theorem o2_neI {G : Ctx} : Op2 G rNe D.int D.int D.bl fun i j => some (!decide (i = j)) := fun x y z M H v w Q mh hv hw e k => by
  rw [show v = .int x from hv, show w = .int y from hw]
  refine ⟨rfl, k _ M H (.refl mh) ?_⟩
  rw [← Option.some.inj e]
  show V.bl _ = V.bl _
  congr 1
  simp
theorem o2_eqS {G : Ctx} : Op2 G rEq D.str D.str D.bl fun i j => some (decide (i = j)) := fun x y z M H v w Q mh hv hw e k => by
  rw [show v = .str x from hv, show w = .str y from hw]
  refine ⟨rfl, k _ M H (.refl mh) ?_⟩
  rw [← Option.some.inj e]
  show V.bl _ = V.bl _
  congr 1
  simp
theorem o2_neS {G : Ctx} : Op2 G rNe D.str D.str D.bl fun i j => some (!decide (i = j)) := fun x y z M H v w Q mh hv hw e k => by
  rw [show v = .str x from hv, show w = .str y from hw]
  refine ⟨rfl, k _ M H (.refl mh) ?_⟩
  rw [← Option.some.inj e]
  show V.bl _ = V.bl _
  congr 1
  simp
theorem dd_eqI (ha : DD X W Γ a D.int ma) (hb : DD X W Γ b D.int mb) : DD X W Γ (.Compare a [.Eq] [b] pos) D.bl (ma >>= fun x => mb >>= fun y => .ok (decide (x = y))) := dd_cmp o2_eqI op_eq (nomark _) ha hb
theorem dd_neI (ha : DD X W Γ a D.int ma) (hb : DD X W Γ b D.int mb) : DD X W Γ (.Compare a [.NotEq] [b] pos) D.bl (ma >>= fun x => mb >>= fun y => .ok (!decide (x = y))) := dd_cmp o2_neI op_ne (nomark _) ha hb
theorem dt_eqI (ha : DD X W Γ a D.int ma) (hb : DD X W Γ b D.int mb) : DT X W Γ (.Compare a [.Eq] [b] pos) (ma >>= fun x => mb >>= fun y => .ok (decide (x = y))) := dt_cmp o2_eqI op_eq (nomark _) ha hb
theorem dt_neI (ha : DD X W Γ a D.int ma) (hb : DD X W Γ b D.int mb) : DT X W Γ (.Compare a [.NotEq] [b] pos) (ma >>= fun x => mb >>= fun y => .ok (!decide (x = y))) := dt_cmp o2_neI op_ne (nomark _) ha hb
theorem dd_eqS {ma mb : R Str} (ha : DD X W Γ a D.str ma) (hb : DD X W Γ b D.str mb) : DD X W Γ (.Compare a [.Eq] [b] pos) D.bl (ma >>= fun x => mb >>= fun y => .ok (decide (x = y))) := dd_cmp o2_eqS op_eq (nomark _) ha hb
theorem dd_neS {ma mb : R Str} (ha : DD X W Γ a D.str ma) (hb : DD X W Γ b D.str mb) : DD X W Γ (.Compare a [.NotEq] [b] pos) D.bl (ma >>= fun x => mb >>= fun y => .ok (!decide (x = y))) := dd_cmp o2_neS op_ne (nomark _) ha hb
theorem dt_eqS {ma mb : R Str} (ha : DD X W Γ a D.str ma) (hb : DD X W Γ b D.str mb) : DT X W Γ (.Compare a [.Eq] [b] pos) (ma >>= fun x => mb >>= fun y => .ok (decide (x = y))) := dt_cmp o2_eqS op_eq (nomark _) ha hb
theorem dt_neS {ma mb : R Str} (ha : DD X W Γ a D.str ma) (hb : DD X W Γ b D.str mb) : DT X W Γ (.Compare a [.NotEq] [b] pos) (ma >>= fun x => mb >>= fun y => .ok (!decide (x = y))) := dt_cmp o2_neS op_ne (nomark _) ha hb
/-! ### one operand -/
theorem dd_neg (ha : DD X W Γ a D.int ma) : DD X W Γ (.UnaryOp .USub a pos) D.int (ma >>= fun x => .ok (-x)) := by
  have pa := pe_w X a; have qa := ha
  exact dmk ⟨_, pe_un un_neg pa, fun F M0 M H σ Q s po => qa F M0 M H σ _ s (po.bind.imp (fun x _ k v M1 H1 g1 r1 => ⟨x, r1, k _ M1 H1 g1 rfl⟩) fun _ z => z)⟩
end
/-! ### tests -/
theorem dt_bl {m : R Bool} (h : DD X W Γ e D.bl m) (he : ∀ whole, isTrue e X.env whole = (do let v ← whole; standAt e.pos; holding [v] (truthy v)) := by intro _; rfl) : DT X W Γ e m := by
  have p := pe_w X e; have q := h
  exact tmk ⟨_, pt_val p he, fun F M0 M H σ Q s po => q F M0 M H σ _ s (po.imp (fun x _ k v M' H' g r => ⟨x, r, k M' H' g⟩) fun _ z => z)⟩
/-- how data counts as a test -/
def tru : T → Option Bool
  | .imm .non => some false
  | .imm (.bl b) => some b
  | .imm (.int i) => some (i != 0)
  | .imm (.str s) => if s.length ≤ sizeLine then some ((s.length : Int) != 0) else none
  | .imm (.lst ds) => some !ds.isEmpty
  | .imm (.frl ds) => some !ds.isEmpty
  | .imm (.tup ds) => some !ds.isEmpty
  | .lst ts => some !ts.isEmpty
  | _ => none
theorem empty_of_len {α β : Type} {xs : List α} {ys : List β} (h : xs.length = ys.length) : xs.isEmpty = ys.isEmpty := by
  cases xs <;> cases ys <;> simp_all
theorem tru_of {G : Ctx} {M H : Hp} {t : T} {v : V} {as : List Addr} {k : Bool} (mh : Same M H) (o : Own G M H t v as) (h : tru t = some k) : TruV G.K v H k := by
  cases t with
  | imm d =>
    obtain ⟨_, o⟩ := o
    cases d with
    | any => cases h
    | non =>
      rw [show v = .non from o]
      exact (Option.some.inj h).symm
    | bl b =>
      rw [show v = .bl b from o]
      exact (Option.some.inj h).symm
    | int i =>
      rw [show v = .int i from o]
      exact (Option.some.inj h).symm
    | str s =>
      rw [show v = .str s from o]
      have h' : (if s.length ≤ sizeLine then some ((s.length : Int) != 0) else none) = some k := h
      by_cases c : s.length ≤ sizeLine
      · rw [if_pos c] at h'
        exact ⟨c, (Option.some.inj h').symm⟩
      · rw [if_neg c] at h'; cases h'
    | tup ds =>
      obtain ⟨a, vs, e, h2, h3⟩ := o
      rw [e]
      refine .inr (.inl ⟨vs, same_sqt mh h2, ?_⟩)
      rw [← Option.some.inj h, empty_of_len h3.len]
    | lst ds =>
      obtain ⟨a, vs, e, h2, h3⟩ := o
      rw [e]
      refine .inl ⟨vs, .of (mh _ _ h2), ?_⟩
      rw [← Option.some.inj h, empty_of_len h3.len]
    | frl ds =>
      obtain ⟨a, vs, e, h2, h3⟩ := o
      rw [e]
      refine .inl ⟨vs, mh.seq h2, ?_⟩
      rw [← Option.some.inj h, empty_of_len h3.len]
    | dic _ _ => cases h
    | dit _ _ => cases h
    | obj _ _ _ => cases h
  | lst ts =>
    obtain ⟨a, vs, r, e, e2, h2, h3⟩ := o
    rw [e]
    refine .inl ⟨vs, .of h2, ?_⟩
    rw [← Option.some.inj h, empty_of_len h3.len]
  | dic _ _ => cases h
  | dit _ _ => cases h
  | obj _ _ _ => cases h
/-- an expression of any kind as a test -/
theorem dt_tru {emb : α → T} {m : R α} (h : DB X W Γ e emb m) (he : ∀ whole, isTrue e X.env whole = (do let v ← whole; standAt e.pos; holding [v] (truthy v)) := by intro _; rfl) : DT X W Γ e (m >>= fun x => ofO (tru (emb x))) := by
  have p := pe_w X e; have q := h
  refine tmk ⟨_, pt_truth p he, fun F M0 M H σ Q s po => q F M0 M H σ _ s (po.bind.imp (fun x _ k v M' H' as g o => ?_) fun _ z => z)⟩
  obtain ⟨b, e, k⟩ := k.ofO
  exact ⟨b, tru_of g.mh o e, k M' H' g⟩
theorem dt_int {m : R Int} (h : DD X W Γ e D.int m) (he : ∀ whole, isTrue e X.env whole = (do let v ← whole; standAt e.pos; holding [v] (truthy v)) := by intro _; rfl) : DT X W Γ e (m >>= fun x => .ok (x != 0)) := dt_tru (db_of_dd h) he
theorem dt_lst {emb : α → T} {m : R (List α)} (h : DB X W Γ e (fun xs => .lst (xs.map emb)) m) (he : ∀ whole, isTrue e X.env whole = (do let v ← whole; standAt e.pos; holding [v] (truthy v)) := by intro _; rfl) : DT X W Γ e (m >>= fun x => .ok !x.isEmpty) := by
  have q := dt_tru h he
  have z : (fun x : List α => ofO (tru (T.lst (x.map emb)))) = fun x => R.ok !x.isEmpty := by
    funext x
    show R.ok _ = R.ok _
    rw [List.isEmpty_map]
  rw [z] at q; exact q
theorem dw_one {op : BoolOp} {m : R Bool} (h : DT X W Γ e m) (ho : op = .And ∨ op = .Or) : DW X W Γ (.BoolOp op [e] pos) m := by
  have p := pt_w X e; have q := h
  rcases ho with rfl | rfl
  · exact wmk ⟨_, pw_and1 p, q⟩
  · exact wmk ⟨_, pw_or1 p, q⟩
theorem dw_and {m n : R Bool} {rest : List Expr} (h : DT X W Γ a m) (k : DW X W Γ (.BoolOp .And (b :: rest) pos) n) : DW X W Γ (.BoolOp .And (a :: b :: rest) pos) (m >>= fun x => if x then n else .ok false) := by
  have p := pt_w X a; have q := h
  have p' := pw_w X (.BoolOp .And (b :: rest) pos); have q' := k
  refine wmk ⟨_, pw_and p p', fun F M0 M H σ Q s po => q F M0 M H σ _ s (po.bind.imp (fun x _ k M' H' g => ?_) fun _ z => z)⟩
  cases x with
  | true => exact q' F M0 M' H' σ _ (s.grow g) (k.imp (fun y _ z M2 H2 g2 => z M2 H2 (g.trans g2)) fun c z M2 H2 g2 => z M2 H2 (g.trans g2))
  | false => exact k M' H' g
theorem dw_or {m n : R Bool} {rest : List Expr} (h : DT X W Γ a m) (k : DW X W Γ (.BoolOp .Or (b :: rest) pos) n) : DW X W Γ (.BoolOp .Or (a :: b :: rest) pos) (m >>= fun x => if x then .ok true else n) := by
  have p := pt_w X a; have q := h
  have p' := pw_w X (.BoolOp .Or (b :: rest) pos); have q' := k
  refine wmk ⟨_, pw_or p p', fun F M0 M H σ Q s po => q F M0 M H σ _ s (po.bind.imp (fun x _ k M' H' g => ?_) fun _ z => z)⟩
  cases x with
  | false => exact q' F M0 M' H' σ _ (s.grow g) (k.imp (fun y _ z M2 H2 g2 => z M2 H2 (g.trans g2)) fun c z M2 H2 g2 => z M2 H2 (g.trans g2))
  | true => exact k M' H' g
theorem dt_dw {m : R Bool} (h : DW X W Γ e m) : DT X W Γ e m := by
  have p := pw_w X e; have q := h
  exact tmk ⟨_, p.pt, q⟩
theorem dt_not {m : R Bool} (h : DT X W Γ e m) : DT X W Γ (.UnaryOp .Not e pos) (m >>= fun x => .ok !x) := by
  have p := pt_w X e; have q := h
  exact tmk ⟨_, pt_not p, fun F M0 M H σ Q s po => q F M0 M H σ _ s (po.bind.imp (fun x _ k M' H' g => k M' H' g) fun _ z => z)⟩
/-- and, or, not of bools as values -/
theorem dd_one {op : BoolOp} {m : R Bool} (h : DD X W Γ e D.bl m) : DD X W Γ (.BoolOp op [e] pos) D.bl m := by
  have p := pe_w X e; have q := h
  exact dmk ⟨_, pe_one p, q⟩
theorem dd_andB {m n : R Bool} {rest : List Expr} (h : DD X W Γ a D.bl m) (k : DD X W Γ (.BoolOp .And (b :: rest) pos) D.bl n) : DD X W Γ (.BoolOp .And (a :: b :: rest) pos) D.bl (m >>= fun x => if x then n else .ok false) := by
  have p := pe_w X a; have q := h
  have p' := pe_w X (.BoolOp .And (b :: rest) pos); have q' := k
  refine dmk ⟨_, pe_and p p', fun F M0 M H σ Q s po => q F M0 M H σ _ s (po.bind.imp (fun x _ k v M' H' g r => ⟨x, r, ?_⟩) fun _ z => z)⟩
  cases x with
  | true => exact q' F M0 M' H' σ _ (s.grow g) (k.imp (fun y _ z v M2 H2 g2 => z v M2 H2 (g.trans g2)) fun c z M2 H2 g2 => z M2 H2 (g.trans g2))
  | false => exact k _ M' H' g rfl
theorem dd_orB {m n : R Bool} {rest : List Expr} (h : DD X W Γ a D.bl m) (k : DD X W Γ (.BoolOp .Or (b :: rest) pos) D.bl n) : DD X W Γ (.BoolOp .Or (a :: b :: rest) pos) D.bl (m >>= fun x => if x then .ok true else n) := by
  have p := pe_w X a; have q := h
  have p' := pe_w X (.BoolOp .Or (b :: rest) pos); have q' := k
  refine dmk ⟨_, pe_or p p', fun F M0 M H σ Q s po => q F M0 M H σ _ s (po.bind.imp (fun x _ k v M' H' g r => ⟨x, r, ?_⟩) fun _ z => z)⟩
  cases x with
  | false => exact q' F M0 M' H' σ _ (s.grow g) (k.imp (fun y _ z v M2 H2 g2 => z v M2 H2 (g.trans g2)) fun c z M2 H2 g2 => z M2 H2 (g.trans g2))
  | true => exact k _ M' H' g rfl
theorem dd_notB {m : R Bool} (h : DD X W Γ e D.bl m) : DD X W Γ (.UnaryOp .Not e pos) D.bl (m >>= fun x => .ok !x) := by
  have p := pe_w X e; have q := h
  exact dmk ⟨_, pe_not p, fun F M0 M H σ Q s po => q F M0 M H σ _ s (po.bind.imp (fun x _ k v M' H' g r => ⟨x, r, k _ M' H' g rfl⟩) fun _ z => z)⟩
theorem df_if {c : Expr} {mc : R Bool} {emb : α → T} {m n : R α} (hc : DT X W Γ c mc) (ha : DF X W Γ a emb m) (hb : DF X W Γ b emb n) : DF X W Γ (.IfExp c a b pos) emb (mc >>= fun x => if x then m else n) := by
  have pc := pt_w X c; have qc := hc
  have pa := pe_w X a; have qa := ha
  have pb := pe_w X b; have qb := hb
  refine dmk ⟨_, pe_ifExp pc pa pb, fun F M0 M H σ Q s po => qc F M0 M H σ _ s (po.bind.imp (fun x _ k M' H' g => ?_) fun _ z => z)⟩
  cases x with
  | true => exact qa F M0 M' H' σ _ (s.grow g) (k.imp (fun y _ z v M2 H2 as g2 o nd fr => z v M2 H2 as (g.trans g2) o nd fun a ha => ⟨g.hh.free (fr a ha).1, (fr a ha).2⟩) fun c z M2 H2 g2 => z M2 H2 (g.trans g2))
  | false => exact qb F M0 M' H' σ _ (s.grow g) (k.imp (fun y _ z v M2 H2 as g2 o nd fr => z v M2 H2 as (g.trans g2) o nd fun a ha => ⟨g.hh.free (fr a ha).1, (fr a ha).2⟩) fun c z M2 H2 g2 => z M2 H2 (g.trans g2))
theorem dd_if {c : Expr} {mc : R Bool} {emb : α → D} {m n : R α} (hc : DT X W Γ c mc) (ha : DD X W Γ a emb m) (hb : DD X W Γ b emb n) : DD X W Γ (.IfExp c a b pos) emb (mc >>= fun x => if x then m else n) := dd_imm (df_if hc (df_of_dd ha) (df_of_dd hb))
/-! ### arguments, calls -/
theorem da_nil : DA X W Γ [] (fun _ : Unit => []) (.ok ()) := amk ⟨_, pa_nil, fun F M0 M H σ Q s po => po [] M H (.refl s.mh) rfl⟩
theorem da_cons {ea : α → D} {es' : β → List D} {m : R α} {n : R β} (h : DD X W Γ e ea m) (k : DA X W Γ es es' n) (hs : starEach (e :: es) X.env = (false, eval e X.env) :: starEach es X.env := by exact star_cons rfl) :
    DA X W Γ (e :: es) (fun p : α × β => ea p.1 :: es' p.2) (m >>= fun x => n >>= fun y => .ok (x, y)) := by
  have p := pe_w X e; have q := h
  have p' := pa_w X es; have q' := k
  refine amk ⟨_, pa_cons p p' hs, fun F M0 M H σ Q s po => q F M0 M H σ _ s (po.bind.imp (fun x _ k v M1 H1 g r => ?_) fun _ z => z)⟩
  exact q' F M0 M1 H1 σ _ (s.grow g) (k.bind.imp (fun y _ z vs M2 H2 g2 r2 => z _ M2 H2 (g.trans g2) ⟨v, vs, rfl, Rep.mono g2.mm _ _ r, r2⟩) fun c z M2 H2 g2 => z M2 H2 (g.trans g2))
/-- a def that changes nothing: what it is given stands for a, it hands back what stands for f a, or raises -/
def SpF (G : Ctx) {α ρ : Type} (args : α → List D) (er : ρ → T) (f : α → R ρ) : Sp := fun vs H Q E => ∃ (a : α) (M : Hp), Same M H ∧ Reps G M (args a) vs ∧
  Po (f a) (fun r => WF G M H (er r) Q) (fun c => ∀ M' H', Gr M H M' H' → ∀ C, G.mg c = some (.ref C) → E (.ref C) none H')
section
variable {k : Nat} {f : Addr} {fd : FuncData} {ps : List Str} {n : Str} {p : Pos} {ρ : Type}
theorem df_call {args : α → List D} {er : ρ → T} {g : α → R ρ} {m : R α} (Fk : FnOk X.prog X.w X.K X.mg X.base (L2.CX X.prog X.w) k f fd ps (SpF X.G args er g)) (hr : Room k X.A) (hm : X.mg n = some (.ref f)) (hk : PySem.W.keepIn X.K (.ref f) = true) (hb : Binds X.K fd ps [])
    (tk : Takes X W) (ha : DA X W Γ (e :: es) args m) (hg : Gl X n := by rfl) (hdb : (n == ("__debug__" : Str)) = false := by decide) (he : starEach (e :: es) X.env = (false, eval e X.env) :: starEach es X.env := by exact star_cons rfl) (hpl : (backTo pos (starEach es X.env)).any (·.1) = false := by exact star_none rfl) :
    DF X W Γ (.Call (.Name n p) (e :: es) [] pos) er (m >>= g) := by
  have pa := pa_w X (e :: es); have qa := ha
  refine dmk ⟨_, pe_callS Fk hr hg hm hk hb (fun σ => passAt tk σ) pa hdb he hpl, fun F M0 M H σ Q s po => ?_⟩
  refine qa F M0 M H σ _ s (po.bind.imp (fun x _ k vs M1 H1 g1 r1 => ?_) fun _ z => z)
  exact ⟨x, M1, g1.mh, r1, k.imp (fun r _ z v M2 H2 as g2 o nd fr => z v M2 H2 as (g1.trans g2) o nd fun a ha => ⟨g1.hh.free (fr a ha).1, (fr a ha).2⟩) fun c z M2 H2 g2 => z M2 H2 (g1.trans g2)⟩
end
end
end Cn
/-! Cn3: statements -/
namespace Cn
open PySem PySem.Spec L2
/-- the ways in which a block may end with an outcome -/
structure Kd where
  nx : Option (List Sl) := none
  rt : Option (T × List Sl) := none
  bk : Option (List Sl) := none
  ct : Option (List Sl) := none
abbrev Kd.n (Γ : List Sl) : Kd := { nx := some Γ }
abbrev Kd.r (t : T) (Γ : List Sl) : Kd := { rt := some (t, Γ) }
/-- .. but the falling through -/
abbrev Kd.ex (k : Kd) : Kd := { k with nx := none }
abbrev Kd.rr (k : Kd) : Kd := { rt := k.rt }
structure Kn (G : Ctx) (F M0 : Hp) (D : Ends) (k : Kd) : Prop where
  nx : ∀ Γ, k.nx = some Γ → ∀ M H σ, S G F M0 M H σ Γ → D.nx σ H
  rt : ∀ t Γ, k.rt = some (t, Γ) → ∀ M H σ v, S G F M0 M H (some v :: σ) (.ow t :: Γ) → D.rt v H
  bk : ∀ Γ, k.bk = some Γ → ∀ M H σ, S G F M0 M H σ Γ → D.bk σ H
  ct : ∀ Γ, k.ct = some Γ → ∀ M H σ, S G F M0 M H σ Γ → D.ct σ H
/-- a block; Γe: what is known where an exception leaves -/
abbrev Bk (X : Cx) (W : WX) (Γe Γ : List Sl) (ss : List Stmt) {ω : Type} (κ : ω → Kd) (m : R ω) : Prop :=
  JQ X Γ (fun σ H D => wSs X ss D σ H) fun F M0 M H σ D => Po m (fun o => Kn X.G F M0 D (κ o)) (fun c => ∀ M' H' σ', S X.G F M0 M' H' σ' Γe → Er X.G W c σ' H')
abbrev St1 (X : Cx) (W : WX) (Γe Γ : List Sl) (s : Stmt) {ω : Type} (κ : ω → Kd) (m : R ω) : Prop :=
  JQ X Γ (fun σ H D => wS X s D σ H) fun F M0 M H σ D => Po m (fun o => Kn X.G F M0 D (κ o)) (fun c => ∀ M' H' σ', S X.G F M0 M' H' σ' Γe → Er X.G W c σ' H')
/-! ### the state, stored to -/
section
variable {G : Ctx} {F M0 M M' H H' : Hp} {σ : St} {Γ : List Sl}
theorem S.put {t : T} {v : V} {n : List Addr} {i : Nat} (s : S G F M0 M H σ Γ) (g : Gr M H M' H') (o : Own G M' H' t v n) (nd : n.Nodup) (fr : ∀ a ∈ n, H a = none ∧ M' a = none) (hi : i < Γ.length) : S G F M0 M' H' (σ.set i (some v)) (Γ.set i (.ow t)) := by
  obtain ⟨as, f, sa⟩ := s
  have th := Sat.there Γ σ as sa
  have sa' := Sat.keep g.mm Γ σ as (fun a _ o e => g.hh a o e) sa
  obtain ⟨bs, l, r, sb, e, sub⟩ := Sat.put sa' hi o
  refine ⟨bs, ?_, sb⟩
  rw [e]
  exact (f.grow th g).add sub nd (fun a ha => f.fh.free (fr a ha).1) (fun a ha => (fr a ha).2) fun a ha z => th a z (fr a ha).1
theorem S.cons {t : T} {v : V} {n : List Addr} (s : S G F M0 M H σ Γ) (g : Gr M H M' H') (o : Own G M' H' t v n) (nd : n.Nodup) (fr : ∀ a ∈ n, H a = none ∧ M' a = none) : S G F M0 M' H' (some v :: σ) (.ow t :: Γ) := by
  obtain ⟨as, f, sa⟩ := s
  have th := Sat.there Γ σ as sa
  have sa' := Sat.keep g.mm Γ σ as (fun a _ o e => g.hh a o e) sa
  refine ⟨n ++ as, ?_, ⟨v, σ, n, as, rfl, rfl, o, sa'⟩⟩
  exact (f.grow th g).add (l := []) (by simp) nd (fun a ha => f.fh.free (fr a ha).1) (fun a ha => (fr a ha).2) fun a ha z => th a z (fr a ha).1
/-- the slot's tree alone, the others around it -/
theorem Sat.focus : ∀ {Γ : List Sl} {σ : St} {as : List Addr} {i : Nat} {t : T}, Sat G M H Γ σ as → Γ[i]? = some (.ow t) →
    ∃ v l a r, σ[i]? = some (some v) ∧ as = l ++ a ++ r ∧ Own G M H t v a ∧ ∀ M' H' t' a', Same M M' → (∀ b ∈ l ++ r, ∀ o, H b = some o → H' b = some o) → Own G M' H' t' v a' → Sat G M' H' (Γ.set i (.ow t')) σ (l ++ a' ++ r)
  | [], σ, as, i, t, h, e => by simp at e
  | .un :: Γ, σ, as, 0, t, h, e => nomatch (Option.some.inj e)
  | .un :: Γ, σ, as, i + 1, t, ⟨x, r, h1, h2⟩, e => by
    subst h1
    obtain ⟨v, l, a, r', q1, q2, q3, q4⟩ := Sat.focus (i := i) h2 e
    exact ⟨v, l, a, r', q1, q2, q3, fun M' H' t' a' m k o => ⟨x, r, rfl, q4 M' H' t' a' m k o⟩⟩
  | .ow t0 :: Γ, σ, as, 0, t, ⟨v, r, a1, a2, h1, h2, h3, h4⟩, e => by
    have z : t0 = t := Sl.ow.inj (Option.some.inj e)
    subst z; subst h1
    refine ⟨v, [], a1, a2, rfl, h2, h3, fun M' H' t' a' m k o => ⟨v, r, a', a2, rfl, rfl, o, Sat.keep m Γ r a2 (fun b hb => k b (by simpa using hb)) h4⟩⟩
  | .ow t0 :: Γ, σ, as, i + 1, t, ⟨v, r, a1, a2, h1, h2, h3, h4⟩, e => by
    subst h1; subst h2
    obtain ⟨w, l, a, r', q1, q2, q3, q4⟩ := Sat.focus (i := i) h4 e
    subst q2
    refine ⟨w, a1 ++ l, a, r', q1, by simp, q3, fun M' H' t' a' m k o => ⟨v, r, a1, l ++ a' ++ r', rfl, by simp, Own.keep m t0 v a1 (fun b hb => k b (by simp [hb])) h3, q4 M' H' t' a' m (fun b hb => k b ?_) o⟩⟩
    rw [List.append_assoc]; exact List.mem_append_right _ hb
  | .pn w0 t0 :: Γ, σ, as, 0, t, h, e => nomatch (Option.some.inj e)
  | .pn w0 t0 :: Γ, σ, as, i + 1, t, ⟨r, a1, a2, h1, h2, h3, h4⟩, e => by
    subst h1; subst h2
    obtain ⟨w, l, a, r', q1, q2, q3, q4⟩ := Sat.focus (i := i) h4 e
    subst q2
    refine ⟨w, a1 ++ l, a, r', q1, by simp, q3, fun M' H' t' a' m k o => ⟨r, a1, l ++ a' ++ r', rfl, by simp, Own.keep m t0 w0 a1 (fun b hb => k b (by simp [hb])) h3, q4 M' H' t' a' m (fun b hb => k b ?_) o⟩⟩
    rw [List.append_assoc]; exact List.mem_append_right _ hb
theorem Fr0.upd {as : List Addr} {p : Addr} {o : HO} (f : Fr0 F M0 M H as) (hp : p ∈ as) : Fr0 F M0 M (upd H p o) as where
  fh := fun b u e => by rw [upd_ne (ne_of_none e (f.fa p hp))]; exact f.fh b u e
  mm := f.mm
  mh := fun b u e => by rw [upd_ne (ne_of_none e (f.ma p hp))]; exact f.mh b u e
  nw := f.nw
  nd := f.nd
  fa := f.fa
  ma := f.ma
/-- a list of the slot's own is changed in its items; n: what comes to it -/
theorem S.listed {i : Nat} {ts ts' : List T} (s : S G F M0 M H σ Γ) (h : Γ[i]? = some (.ow (.lst ts))) :
    ∃ a vs, σ[i]? = some (some (.ref a)) ∧ H a = some (.lst vs) ∧ vs.length = ts.length ∧ (∃ as, Owns G M H ts vs as) ∧
      ∀ M' H' vs' n, Gr M H M' H' → (∀ as K', (∀ b ∈ as, b ≠ a) → Owns G M H ts vs as → Owns G M' K' ts vs as → (∀ b o, b ≠ a → H' b = some o → K' b = some o) → ∃ as', Owns G M' K' ts' vs' as' ∧ as'.Sublist (as ++ n)) → n.Nodup → (∀ b ∈ n, H b = none ∧ M' b = none) →
        S G F M0 M' (upd H' a (.lst vs')) σ (Γ.set i (.ow (.lst ts'))) := by
  obtain ⟨as, f, sa⟩ := s
  obtain ⟨v, l, a0, r, q1, q2, q3, q4⟩ := Sat.focus sa h
  obtain ⟨a, vs, r0, e1, e2, e3, e4⟩ := q3
  subst e1; subst e2
  refine ⟨a, vs, q1, e3, Owns.len e4, ⟨r0, e4⟩, fun M' H' vs' n g ho nn fr => ?_⟩
  have th := Sat.there Γ σ as sa
  have f1 := f.grow th g
  have hnd := f.nd
  rw [q2] at hnd
  have hp : a ∈ as := by rw [q2]; simp
  have nr : ∀ b ∈ r0, b ≠ a := fun b hb z => by
    subst z
    rw [List.nodup_append] at hnd
    have := hnd.1
    rw [List.nodup_append] at this
    have := this.2.1
    rw [List.nodup_cons] at this
    exact this.1 hb
  have no : ∀ b ∈ l ++ r, b ≠ a := fun b hb z => by
    subst z
    rw [List.nodup_append] at hnd
    rcases List.mem_append.mp hb with w | w
    · have q := hnd.1
      rw [List.nodup_append] at q
      exact q.2.2 b w b List.mem_cons_self rfl
    · exact hnd.2.2 b (by simp) b w rfl
  obtain ⟨as', o', sub⟩ := ho r0 (upd H' a (.lst vs')) nr e4 (Owns.keep g.mm ts vs r0 (fun b hb o e => by rw [upd_ne (nr b hb)]; exact g.hh b o e) e4)  (fun b o hb e => by rw [upd_ne hb]; exact e)
  have f2 := (f1.upd (o := .lst vs') hp).add (l := l ++ (a :: r0)) (n := n) (r := r) (by rw [q2]; exact .refl _) nn (fun b hb => f.fh.free (fr b hb).1) (fun b hb => (fr b hb).2) fun b hb z => th b z (fr b hb).1
  refine ⟨l ++ (a :: as') ++ r, f2.sub ?_, q4 M' _ _ _ g.mm (fun b hb o e => by rw [upd_ne (no b hb)]; exact g.hh b o e) ⟨a, vs', as', rfl, rfl, upd_same, o'⟩⟩
  refine List.Sublist.append ?_ (.refl _)
  rw [List.append_assoc]
  refine List.Sublist.append (.refl _) ?_
  rw [List.cons_append]
  exact List.Sublist.cons₂ a sub
theorem S.base_in {M1 : Hp} (s : S G F M0 M H σ Γ) (h1 : Same M1 M) (h0 : Same M0 M1) : S G F M1 M H σ Γ := by
  obtain ⟨as, f, sa⟩ := s
  exact ⟨as, ⟨f.fh, h1, f.mh, fun a z => by
    rcases f.nw a z with q | q
    · exact .inl (Same.of_some h0 q)
    · exact .inr q, f.nd, f.fa, f.ma⟩, sa⟩
theorem S.base_out {M1 : Hp} (s : S G F M1 M H σ Γ) (h0 : Same M0 M1) (nw : ∀ a, M1 a ≠ none → M0 a ≠ none ∨ F a = none) : S G F M0 M H σ Γ := by
  obtain ⟨as, f, sa⟩ := s
  exact ⟨as, ⟨f.fh, h0.trans f.mm, f.mh, fun a z => by
    rcases f.nw a z with q | q
    · exact nw a q
    · exact .inr q, f.nd, f.fa, f.ma⟩, sa⟩
theorem S.rel (s : S G F M0 M H σ Γ) : Same M0 M ∧ ∀ a, M a ≠ none → M0 a ≠ none ∨ F a = none := by
  obtain ⟨as, f, sa⟩ := s
  exact ⟨f.mm, f.nw⟩
theorem Kn.base {M1 : Hp} {D : Ends} {k : Kd} (h : Kn G F M0 D k) (h0 : Same M0 M1) (nw : ∀ a, M1 a ≠ none → M0 a ≠ none ∨ F a = none) : Kn G F M1 D k :=
  ⟨fun Γ e M H σ s => h.nx Γ e M H σ (s.base_out h0 nw), fun t Γ e M H σ v s => h.rt t Γ e M H σ v (s.base_out h0 nw), fun Γ e M H σ s => h.bk Γ e M H σ (s.base_out h0 nw), fun Γ e M H σ s => h.ct Γ e M H σ (s.base_out h0 nw)⟩
/-- fresh data is shared from now on -/
theorem S.len (s : S G F M0 M H σ Γ) : σ.length = Γ.length := by
  obtain ⟨as, f, sa⟩ := s
  have : ∀ (Γ : List Sl) (σ : St) (as : List Addr), Sat G M H Γ σ as → σ.length = Γ.length := by
    intro Γ
    induction Γ with
    | nil => intro σ as h; rw [h.1]; rfl
    | cons x Γ ih =>
      intro σ as h
      cases x with
      | un => obtain ⟨x, r, h1, h2⟩ := h; rw [h1, List.length_cons, List.length_cons, ih _ _ h2]
      | ow t => obtain ⟨v, r, a1, a2, h1, h2, h3, h4⟩ := h; rw [h1, List.length_cons, List.length_cons, ih _ _ h4]
      | pn w t => obtain ⟨r, a1, a2, h1, h2, h3, h4⟩ := h; rw [h1, List.length_cons, List.length_cons, ih _ _ h4]
  exact this Γ σ as sa
end
/-! ### blocks -/
section
variable {X : Cx} {W : WX} {Γe Γ : List Sl} {a b e c : Expr} {es : List Expr} {α β γ ω ω1 : Type} {pos : Pos} {s : Stmt} {rest A B : List Stmt}
theorem bk_nil {κ : ω → Kd} {o : ω} {Γ' : List Sl} (hk : (κ o).nx = some Γ') (hw : Wk Γ' Γ) : Bk X W Γe Γ [] κ (.ok o) :=
  bmk ⟨_, pss_nil, fun F M0 M H σ D s po => po.nx Γ' hk M H σ (s.wk hw)⟩
theorem bk_one {κ : ω → Kd} {m : R ω} (h : St1 X W Γe Γ s κ m) : Bk X W Γe Γ [s] κ m := bmk ⟨_, pss_one (ps_w X s), h⟩
/-- a statement that falls through, and the rest -/
theorem bk_cons {Γ1 : ω1 → List Sl} {κ : ω → Kd} {m : R ω1} {k : ω1 → R ω} (h1 : St1 X W Γe Γ s (fun o => .n (Γ1 o)) m) (h2 : ∀ o, Bk X W Γe (Γ1 o) rest κ (k o)) : Bk X W Γe Γ (s :: rest) κ (m >>= k) :=
  bmk ⟨_, pss_cons (ps_w X s) (pss_w X rest), fun F M0 M H σ D s po => h1 F M0 M H σ _ s (po.bind.imp (fun o _ q => ⟨fun Γ e M H σ s => by
    have e' : Γ1 o = Γ := Option.some.inj e
    subst e'
    exact h2 o F M0 M H σ D s q, fun t Γ e => (nomatch e), fun Γ e => (nomatch e), fun Γ e => (nomatch e)⟩) fun _ z => z)⟩
/-- a statement that falls through or leaves -/
def sumK {S O T : Type} (f : S → R T) (g : O → R T) : S ⊕ O → R T
  | .inl a => f a
  | .inr o => g o
def kSum {S O : Type} (f : S → Kd) (g : O → Kd) : S ⊕ O → Kd
  | .inl a => f a
  | .inr o => g o
theorem bk_consX {Γ1 : ω1 → List Sl} {κ : ω → Kd} {m : R (ω1 ⊕ ω)} {k : ω1 → R ω} (h1 : St1 X W Γe Γ s (kSum (fun o => .n (Γ1 o)) fun o => (κ o).ex) m) (h2 : ∀ o, Bk X W Γe (Γ1 o) rest κ (k o)) : Bk X W Γe Γ (s :: rest) κ (m >>= sumK k .ok) :=
  bmk ⟨_, pss_cons (ps_w X s) (pss_w X rest), fun F M0 M H σ D s po => h1 F M0 M H σ _ s (po.bind.imp (fun o _ q => by
    cases o with
    | inl o =>
      refine ⟨fun Γ e M H σ s => ?_, fun t Γ e => (nomatch e), fun Γ e => (nomatch e), fun Γ e => (nomatch e)⟩
      have e' : Γ1 o = Γ := Option.some.inj e
      subst e'
      exact h2 o F M0 M H σ D s q
    | inr o => exact ⟨fun Γ e => (nomatch e), fun t Γ e => Kn.rt q t Γ e, fun Γ e => Kn.bk q Γ e, fun Γ e => Kn.ct q Γ e⟩) fun _ z => z)⟩
theorem st_map {κ : ω → Kd} {κ' : ω1 → Kd} {m : R ω} {g : ω → ω1} (h : St1 X W Γe Γ s κ m) (e : ∀ o, κ' (g o) = κ o) : St1 X W Γe Γ s κ' (m >>= fun o => .ok (g o)) := ⟨fun F M0 M H σ D st po =>
  h F M0 M H σ D st (po.bind.imp (fun o _ (q : Kn _ _ _ _ (κ' (g o))) => by rw [← e]; exact q) fun _ z => z)⟩
theorem bk_map {ss : List Stmt} {κ : ω → Kd} {κ' : ω1 → Kd} {m : R ω} {g : ω → ω1} (h : Bk X W Γe Γ ss κ m) (e : ∀ o, Kd.rt (κ' (g o)) = (κ o).rt ∧ ((κ o).nx = none ∨ (κ' (g o)).nx = (κ o).nx) ∧ ((κ o).bk = none ∨ (κ' (g o)).bk = (κ o).bk) ∧ ((κ o).ct = none ∨ (κ' (g o)).ct = (κ o).ct)) : Bk X W Γe Γ ss κ' (m >>= fun o => .ok (g o)) := ⟨fun F M0 M H σ D st po =>
  h F M0 M H σ D st (po.bind.imp (fun o _ (q : Kn _ _ _ _ (κ' (g o))) => by
    obtain ⟨e1, e2, e3, e4⟩ := e o
    refine ⟨fun Γ z => ?_, fun t Γ z => q.rt t Γ (by rw [e1]; exact z), fun Γ z => ?_, fun Γ z => ?_⟩
    · rcases e2 with y | y
      · rw [y] at z; cases z
      · exact q.nx Γ (by rw [y]; exact z)
    · rcases e3 with y | y
      · rw [y] at z; cases z
      · exact q.bk Γ (by rw [y]; exact z)
    · rcases e4 with y | y
      · rw [y] at z; cases z
      · exact q.ct Γ (by rw [y]; exact z)) fun _ z => z)⟩
theorem er_wk {F M0 M H : Hp} {σ : St} (st : S X.G F M0 M H σ Γ) (hw : Wk Γe Γ) {c : Str} (z : ∀ M' H' σ', S X.G F M0 M' H' σ' Γe → Er X.G W c σ' H') : ∀ M' H', Gr M H M' H' → Er X.G W c σ H' := fun M' H' g => z M' H' σ ((st.grow g).wk hw)
/-! small statements -/
theorem st_pass {κ : Unit → Kd} (hk : (κ ()).nx = some Γ) : St1 X W Γe Γ (.Pass pos) κ (.ok ()) := smk ⟨_, ps_pass, fun F M0 M H σ D s po => po.nx Γ hk M H σ s⟩
theorem bk_cont {κ : ω → Kd} {o : ω} {Γ' : List Sl} (hk : (κ o).ct = some Γ') (hw : Wk Γ' Γ) : Bk X W Γe Γ (.Continue pos :: rest) κ (.ok o) :=
  bmk ⟨_, pss_cons ps_continue (pss_w X rest), fun F M0 M H σ D s po => po.ct Γ' hk M H σ (s.wk hw)⟩
theorem bk_break {κ : ω → Kd} {o : ω} {Γ' : List Sl} (hk : (κ o).bk = some Γ') (hw : Wk Γ' Γ) : Bk X W Γe Γ (.Break pos :: rest) κ (.ok o) :=
  bmk ⟨_, pss_cons ps_break (pss_w X rest), fun F M0 M H σ D s po => po.bk Γ' hk M H σ (s.wk hw)⟩
theorem S.wkc {G : Ctx} {F M0 M H : Hp} {σ : St} {v : V} {t : T} {Γr : List Sl} (st : S G F M0 M H (some v :: σ) (.ow t :: Γ)) (hr : Wk Γr Γ) : S G F M0 M H (some v :: σ) (.ow t :: Γr) := S.wk (Γe := .ow t :: Γr) (Γ := .ow t :: Γ) ⟨rfl, hr⟩ st
theorem bk_ret {emb : α → T} {m : R α} {κ : ω → Kd} {g : α → ω} {Γr : List Sl} (he : DF X W Γ e emb m) (hk : ∀ x, (κ (g x)).rt = some (emb x, Γr)) (hr : Wk Γr Γ) (hw : Wk Γe Γ) : Bk X W Γe Γ (.Return (some e) pos :: rest) κ (m >>= fun x => .ok (g x)) :=
  bmk ⟨_, pss_cons (ps_ret (pe_w X e)) (pss_w X rest), fun F M0 M H σ D s po => he F M0 M H σ _ s (po.bind.imp (fun x _ q v M' H' n gr o nd fr => by
    exact Kn.rt q _ _ (hk x) M' H' σ v ((s.cons gr o nd fr).wkc hr)) fun c z => er_wk s hw z)⟩
theorem bk_retN {κ : ω → Kd} {o : ω} {Γr : List Sl} (hk : (κ o).rt = some (.imm .non, Γr)) (hr : Wk Γr Γ) : Bk X W Γe Γ (.Return none pos :: rest) κ (.ok o) :=
  bmk ⟨_, pss_cons ps_retN (pss_w X rest), fun F M0 M H σ D s po => po.rt _ _ hk M H σ .non ((s.cons (t := .imm .non) (v := .non) (n := []) (.refl s.mh) ⟨rfl, rfl⟩ List.nodup_nil fun _ z => nomatch z).wkc hr)⟩
/-- return x, where x is the def's own tree -/
theorem Sat.move {G : Ctx} {M H : Hp} : ∀ {Γ : List Sl} {σ : St} {as : List Addr} {i : Nat} {t : T}, Sat G M H Γ σ as → Γ[i]? = some (.ow t) → ∃ v bs, σ[i]? = some (some v) ∧ Sat G M H (.ow t :: Γ.set i .un) (some v :: σ) bs ∧ List.Perm bs as
  | [], σ, as, i, t, h, e => by simp at e
  | .un :: Γ, σ, as, 0, t, h, e => nomatch (Option.some.inj e)
  | .un :: Γ, σ, as, i + 1, t, ⟨x, r, h1, h2⟩, e => by
    subst h1
    obtain ⟨v, bs, q1, ⟨v', r', a1, a2, z1, z2, z3, z4⟩, q3⟩ := Sat.move (i := i) h2 e
    obtain ⟨zv, zr⟩ := List.cons.inj z1
    cases zv; subst zr
    exact ⟨v, bs, q1, ⟨v, _, a1, a2, rfl, z2, z3, ⟨x, r, rfl, z4⟩⟩, q3⟩
  | .ow t0 :: Γ, σ, as, 0, t, ⟨v, r, a1, a2, h1, h2, h3, h4⟩, e => by
    have z : t0 = t := Sl.ow.inj (Option.some.inj e)
    subst z; subst h1; subst h2
    exact ⟨v, a1 ++ a2, rfl, ⟨v, _, a1, a2, rfl, rfl, h3, ⟨some v, r, rfl, h4⟩⟩, .refl _⟩
  | .ow t0 :: Γ, σ, as, i + 1, t, ⟨w, r, b1, b2, h1, h2, h3, h4⟩, e => by
    subst h1; subst h2
    obtain ⟨v, bs, q1, ⟨v', r', a1, a2, z1, z2, z3, z4⟩, q3⟩ := Sat.move (i := i) h4 e
    obtain ⟨zv, zr⟩ := List.cons.inj z1
    cases zv; subst zr; subst z2
    refine ⟨v, a1 ++ (b1 ++ a2), q1, ⟨v, _, a1, b1 ++ a2, rfl, rfl, z3, ⟨w, r, b1, a2, rfl, rfl, h3, z4⟩⟩, ?_⟩
    rw [← List.append_assoc]
    exact (List.perm_append_comm.append_right a2).trans (by rw [List.append_assoc]; exact List.Perm.append_left b1 q3)
  | .pn w0 t0 :: Γ, σ, as, 0, t, h, e => nomatch (Option.some.inj e)
  | .pn w t0 :: Γ, σ, as, i + 1, t, ⟨r, b1, b2, h1, h2, h3, h4⟩, e => by
    subst h1; subst h2
    obtain ⟨v, bs, q1, ⟨v', r', a1, a2, z1, z2, z3, z4⟩, q3⟩ := Sat.move (i := i) h4 e
    obtain ⟨zv, zr⟩ := List.cons.inj z1
    cases zv; subst zr; subst z2
    refine ⟨v, a1 ++ (b1 ++ a2), q1, ⟨v, _, a1, b1 ++ a2, rfl, rfl, z3, ⟨r, b1, a2, rfl, rfl, h3, z4⟩⟩, ?_⟩
    rw [← List.append_assoc]
    exact (List.perm_append_comm.append_right a2).trans (by rw [List.append_assoc]; exact List.Perm.append_left b1 q3)
theorem Fr0.perm {F M0 M H : Hp} {as bs : List Addr} (f : Fr0 F M0 M H as) (p : List.Perm bs as) : Fr0 F M0 M H bs := ⟨f.fh, f.mm, f.mh, f.nw, p.symm.nodup f.nd, fun a h => f.fa a (p.mem_iff.mp h), fun a h => f.ma a (p.mem_iff.mp h)⟩
theorem bk_retV {n : Str} {p : Pos} {t : T} {κ : ω → Kd} {o : ω} {Γr : List Sl} (i : Nat) (h : Γ[i]? = some (.ow t)) (hk : (κ o).rt = some (t, Γr)) (hr : Wk Γr (Γ.set i .un)) (hN : X.N[i]? = some n := by rfl) (hv : Vis X.env.scope n := by first | exact Or.inl rfl | exact Or.inr (Or.inl rfl) | exact Or.inr (Or.inr rfl))
    (hd : (n == ("__debug__" : Str)) = false := by decide) (hcd : (n == ("__classdict__" : Str)) = false := by decide) : Bk X W Γe Γ (.Return (some (.Name n p)) pos :: rest) κ (.ok o) :=
  bmk ⟨_, pss_cons (ps_ret (pe_var hN hv hd hcd)) (pss_w X rest), fun F M0 M H σ D s po => by
    obtain ⟨as, f, sa⟩ := s
    obtain ⟨v, bs, q1, q2, q3⟩ := Sat.move sa h
    exact ⟨v, q1, po.rt _ _ hk M H σ v (S.wkc ⟨bs, f.perm q3, q2⟩ hr)⟩⟩
theorem st_set {n : Str} {p : Pos} {emb : α → T} {m : R α} (i : Nat) (he : DF X W Γ e emb m) (hw : Wk Γe Γ) (hl : Nat.blt i Γ.length = true := by rfl) (hN : X.N.Nodup) (hi : X.N[i]? = some n := by rfl) (hx : Loc X.env.scope n := by first | exact Or.inl rfl | exact Or.inr rfl)
    (hs : swapsWith e (some (.Name n p)) pos.line X.env = pure false := by rfl) (hf : X.fn n = true ∨ X.env.scope.names.lookup n = some .local := by first | exact .inl rfl | exact .inr rfl) : St1 X W Γe Γ (.Assign [.Name n p] e pos) (fun x => .n (Γ.set i (.ow (emb x)))) m :=
  smk ⟨_, ps_set hN hi hx (pe_w X e) hs hf, fun F M0 M H σ D s po => he F M0 M H σ _ s (po.imp (fun x _ q v M' H' k g o nd fr => Kn.nx q _ rfl M' H' _ (s.put g o nd fr (Nat.le_of_ble_eq_true hl))) fun c z => er_wk s hw z)⟩
theorem st_expr {emb : α → T} {m : R α} (he : DB X W Γ e emb m) (hw : Wk Γe Γ) (hs : swapsWith e none pos.line X.env = pure false := by rfl) : St1 X W Γe Γ (.Expr e pos) (fun _ => .n Γ) m :=
  smk ⟨_, ps_expr (pe_w X e) hs, fun F M0 M H σ D s po => he F M0 M H σ _ s (po.imp (fun x _ q v M' H' k g o => Kn.nx q _ rfl M' H' _ (s.grow g)) fun c z => er_wk s hw z)⟩
theorem st_if {κ : ω → Kd} {mc : R Bool} {ma mb : R ω} (hc : DT X W Γ c mc) (ha : Bk X W Γe Γ A κ ma) (hb : Bk X W Γe Γ B κ mb) (hw : Wk Γe Γ) : St1 X W Γe Γ (.If c A B pos) κ (mc >>= fun x => if x then ma else mb) :=
  smk ⟨_, ps_if (pt_w X c) (pss_w X A) (pss_w X B), fun F M0 M H σ D s po => hc F M0 M H σ _ s (po.bind.imp (fun x _ q M' H' g => by
    cases x with
    | true => exact ha F M0 M' H' σ D (s.grow g) q
    | false => exact hb F M0 M' H' σ D (s.grow g) q) fun c z => er_wk s hw z)⟩
/-- if c: A, which leaves; else B, then the rest -/
theorem bk_ifX {κ : ω → Kd} {mc : R Bool} {ma mb : R ω} (hc : DT X W Γ c mc) (ha : Bk X W Γe Γ A (fun o => (κ o).ex) ma) (hb : Bk X W Γe Γ rest κ mb) (hw : Wk Γe Γ) : Bk X W Γe Γ (.If c A [] pos :: rest) κ (mc >>= fun x => if x then ma else mb) :=
  bmk ⟨_, pss_cons (ps_if (pt_w X c) (pss_w X A) pss_nil) (pss_w X rest), fun F M0 M H σ D s po => hc F M0 M H σ _ s (po.bind.imp (fun x _ q M' H' g => by
    cases x with
    | true => exact ha F M0 M' H' σ _ (s.grow g) (q.imp (fun o _ q => ⟨fun Γ e => (nomatch e), fun t Γ e => Kn.rt q t Γ e, fun Γ e => Kn.bk q Γ e, fun Γ e => Kn.ct q Γ e⟩) fun _ z => z)
    | false => exact hb F M0 M' H' σ D (s.grow g) q) fun c z => er_wk s hw z)⟩
/-- .. with an else that falls through -/
theorem bk_ifXE {κ : ω → Kd} {mc : R Bool} {ma mb : R ω} {B : List Stmt} (hc : DT X W Γ c mc) (ha : Bk X W Γe Γ A (fun o => (κ o).ex) ma) (hb : Bk X W Γe Γ (B ++ rest) κ mb) (hw : Wk Γe Γ) (hB : ∀ (D : Ends) σ H, wSs X (B ++ rest) D σ H → wSs X B { D with nx := wSs X rest D } σ H) :
    Bk X W Γe Γ (.If c A B pos :: rest) κ (mc >>= fun x => if x then ma else mb) :=
  bmk ⟨_, pss_cons (ps_if (pt_w X c) (pss_w X A) (pss_w X B)) (pss_w X rest), fun F M0 M H σ D s po => hc F M0 M H σ _ s (po.bind.imp (fun x _ q M' H' g => by
    cases x with
    | true => exact ha F M0 M' H' σ _ (s.grow g) (q.imp (fun o _ q => ⟨fun Γ e => (nomatch e), fun t Γ e => Kn.rt q t Γ e, fun Γ e => Kn.bk q Γ e, fun Γ e => Kn.ct q Γ e⟩) fun _ z => z)
    | false => exact hB D σ H' (hb F M0 M' H' σ D (s.grow g) q)) fun c z => er_wk s hw z)⟩
end
end Cn
/-! Cn4: loops, defs, exceptions -/
namespace Cn
open PySem PySem.Spec L2
/-! ### what a loop walks -/
/-- the iterator yields what stands for ds -/
def ItD (G : Ctx) (J : It) (ds : List D) (M1 : Hp) : Prop := ∀ M H i, Same M1 M → Same M H →
  (∀ d, ds[i]? = some d → J.go i H ∧ ∀ x H', J.yld i H x H' → ∃ M', Gr M H M' H' ∧ Rep G M' d x) ∧ (ds.length ≤ i → J.stop i H)
abbrev DI (X : Cx) (W : WX) (Γ : List Sl) (tg e : Expr) {α : Type} (emb : α → List D) (m : R α) : Prop :=
  JQ X Γ (wI X tg e) fun F M0 M H σ Q => Po m (fun x => ∀ J M' H', Gr M H M' H' → ItD X.G J (emb x) M' → Q J H') (fun c => ∀ M' H', Gr M H M' H' → Er X.G W c σ H')
theorem imk {X : Cx} {Γ : List Sl} {tg e : Expr} {Pre : Hp → Hp → Hp → Hp → St → (It → Hp → Prop) → Prop} (h : ∃ te, PI X tg e te ∧ ∀ F M0 M H σ Q, S X.G F M0 M H σ Γ → Pre F M0 M H σ Q → te σ H Q) : JQ X Γ (wI X tg e) Pre := ⟨fun F M0 M H σ Q s p pins sh I => by
  obtain ⟨te, pe, q⟩ := h
  exact pe.run pins sh σ H Q I (q F M0 M H σ Q s p)⟩
section
variable {X : Cx} {W : WX} {Γe Γ : List Sl} {a b e c tg : Expr} {es : List Expr} {α β γ ω ω1 : Type} {pos : Pos}
theorem di_frl {ei : α → D} {m : R (List α)} (h : DD X W Γ e (fun xs => .frl (xs.map ei)) m) : DI X W Γ tg e (fun xs => xs.map ei) m :=
  imk ⟨_, pi_list (pe_w X e), fun F M0 M H σ Q s po => h F M0 M H σ _ s (po.imp (fun x _ q v M1 H1 g r => by
    obtain ⟨p, vs, rfl, hq, rs⟩ := r
    refine ⟨p, rfl, ⟨vs, g.mh.seq hq⟩, q _ M1 H1 g fun M H i hm hh => ⟨fun d hd => ?_, fun hi => ⟨vs, hh.seq (hm.seq hq), by rw [rs.len]; exact hi⟩⟩⟩
    obtain ⟨w, e1, r1⟩ := rs.get hd
    have hs := hh.seq (hm.seq hq)
    refine ⟨⟨vs, w, hs, e1⟩, fun x H' y => ?_⟩
    obtain ⟨e2, y⟩ := y
    subst e2
    have e3 : w = x := Option.some.inj (e1.symm.trans (y vs hs))
    subst e3
    exact ⟨M, .refl hh, Rep.mono hm _ _ r1⟩) fun _ z => z)⟩
theorem di_list {ei : α → D} {m : R (List α)} (h : DD X W Γ e (fun xs => .lst (xs.map ei)) m) : DI X W Γ tg e (fun xs => xs.map ei) m :=
  imk ⟨_, pi_list (pe_w X e), fun F M0 M H σ Q s po => h F M0 M H σ _ s (po.imp (fun x _ q v M1 H1 g r => by
    obtain ⟨p, vs, rfl, hq, rs⟩ := r
    have hq : SqL X.K M1 p vs := .of hq
    refine ⟨p, rfl, ⟨vs, g.mh.seq hq⟩, q _ M1 H1 g fun M H i hm hh => ⟨fun d hd => ?_, fun hi => ⟨vs, hh.seq (hm.seq hq), by rw [rs.len]; exact hi⟩⟩⟩
    obtain ⟨w, e1, r1⟩ := rs.get hd
    have hs := hh.seq (hm.seq hq)
    refine ⟨⟨vs, w, hs, e1⟩, fun x H' y => ?_⟩
    obtain ⟨e2, y⟩ := y
    subst e2
    have e3 : w = x := Option.some.inj (e1.symm.trans (y vs hs))
    subst e3
    exact ⟨M, .refl hh, Rep.mono hm _ _ r1⟩) fun _ z => z)⟩
theorem di_tup {ei : α → D} {m : R (List α)} (h : DD X W Γ e (fun xs => .tup (xs.map ei)) m) : DI X W Γ tg e (fun xs => xs.map ei) m :=
  imk ⟨_, pi_tup (pe_w X e), fun F M0 M H σ Q s po => h F M0 M H σ _ s (po.imp (fun x _ q v M1 H1 g r => by
    obtain ⟨p, vs, rfl, hq, rs⟩ := r
    refine ⟨p, rfl, ⟨vs, same_sqt g.mh hq⟩, q _ M1 H1 g fun M H i hm hh => ⟨fun d hd => ?_, fun hi => ⟨vs, same_sqt hh (same_sqt hm hq), by rw [rs.len]; exact hi⟩⟩⟩
    obtain ⟨w, e1, r1⟩ := rs.get hd
    have hs := same_sqt hh (same_sqt hm hq)
    refine ⟨⟨vs, w, hs, e1⟩, fun x H' y => ?_⟩
    obtain ⟨e2, y⟩ := y
    subst e2
    have e3 : w = x := Option.some.inj (e1.symm.trans (y vs hs))
    subst e3
    exact ⟨M, .refl hh, Rep.mono hm _ _ r1⟩) fun _ z => z)⟩
/-- lo, lo + 1, .. below hi -/
def irange (lo hi : Int) : List Int := (List.range (hi - lo).toNat).map fun i : Nat => lo + (i : Int)
theorem irange_get {lo hi : Int} {i : Nat} {x : Int} (h : (irange lo hi)[i]? = some x) : i < (hi - lo).toNat ∧ x = lo + i := by
  unfold irange at h
  rw [List.getElem?_map] at h
  by_cases c : i < (hi - lo).toNat
  · rw [List.getElem?_range c] at h
    exact ⟨c, (Option.some.inj h).symm⟩
  · rw [List.getElem?_eq_none (by simpa using c)] at h; cases h
theorem irange_len {lo hi : Int} : (irange lo hi).length = (hi - lo).toNat := by unfold irange; simp
theorem it_range {G : Ctx} {lo hi : Int} {M1 : Hp} : ItD G (Itr lo (hi - lo).toNat) ((irange lo hi).map D.int) M1 := fun M H i hm hh => ⟨fun d hd => by
  rw [List.getElem?_map] at hd
  cases e : (irange lo hi)[i]? with
  | none => rw [e] at hd; cases hd
  | some x =>
    rw [e] at hd
    obtain ⟨h1, h2⟩ := irange_get e
    have hd' : D.int x = d := Option.some.inj hd
    subst hd'
    refine ⟨h1, fun y H' q => ?_⟩
    obtain ⟨e1, e2⟩ := q
    subst e1; subst e2
    exact ⟨M, .refl hh, by rw [h2]; rfl⟩, fun hi => by rw [List.length_map, irange_len] at hi; exact hi⟩
noncomputable def small (i : Int) : Bool := @decide (-(2 ^ 62) ≤ i ∧ i < 2 ^ 62) (Classical.propDecidable _)
noncomputable def rangeO (lo hi : Int) : Option (List Int) := if small lo && small hi then some (irange lo hi) else none
theorem small_iff {i : Int} : small i = true ↔ -(2 ^ 62) ≤ i ∧ i < 2 ^ 62 := @decide_eq_true_iff _ (Classical.propDecidable _)
theorem rangeO_some {lo hi : Int} {x : List Int} (h : rangeO lo hi = some x) : (-(2 ^ 62) ≤ lo ∧ lo < 2 ^ 62 ∧ -(2 ^ 62) ≤ hi ∧ hi < 2 ^ 62) ∧ x = irange lo hi := by
  unfold rangeO at h
  cases c : (small lo && small hi) with
  | false => rw [c] at h; cases h
  | true =>
    rw [c] at h
    rw [Bool.and_eq_true] at c
    obtain ⟨h1, h2⟩ := c
    have h1 := small_iff.mp h1
    have h2 := small_iff.mp h2
    exact ⟨⟨h1.1, h1.2, h2.1, h2.2⟩, (Option.some.inj h).symm⟩
theorem di_range1 {m : R Int} {p : Pos} (h : DD X W Γ a D.int m) (hm : X.mg "range" = none) (hg : Gl X "range" := by rfl) (hs : starEach [a] X.env = [(false, eval a X.env)] := by exact star_one rfl) :
    DI X W Γ tg (.Call (.Name "range" p) [a] [] pos) (fun xs => xs.map D.int) (m >>= fun n => ofO (rangeO 0 n)) :=
  imk ⟨_, pi_range1 hg hm (pa_w X [a]) hs, fun F M0 M H σ Q s po => by
    have hA := da_cons h da_nil (hs := hs)
    refine hA F M0 M H σ _ s ?_
    have z : (m >>= fun x => (R.ok ()) >>= fun y => R.ok (x, y)) = m >>= fun x => R.ok (x, ()) := rfl
    rw [z]
    cases m with
    | bad => exact po
    | err c => exact po
    | ok n =>
      have po : Po (ofO (rangeO 0 n)) _ _ := po
      obtain ⟨xs, e, k⟩ := po.ofO
      obtain ⟨⟨_, _, h3, h4⟩, rfl⟩ := rangeO_some e
      intro vs M1 H1 g r
      obtain ⟨v, r', rfl, r1, r2⟩ := r
      rw [show r' = [] from r2, show v = .int n from r1]
      refine ⟨n, rfl, h3, h4, ?_⟩
      have q := k (Itr 0 (n - 0).toNat) M1 H1 g it_range
      rw [Int.sub_zero] at q
      exact q⟩
theorem di_range2 {m k : R Int} {p : Pos} (h : DD X W Γ a D.int m) (h' : DD X W Γ b D.int k) (hm : X.mg "range" = none) (hg : Gl X "range" := by rfl) (hs : starEach [a, b] X.env = [(false, eval a X.env), (false, eval b X.env)] := by rfl) (hs2 : starEach [b] X.env = [(false, eval b X.env)] := by exact star_one rfl) :
    DI X W Γ tg (.Call (.Name "range" p) [a, b] [] pos) (fun xs => xs.map D.int) (m >>= fun lo => k >>= fun hi => ofO (rangeO lo hi)) :=
  imk ⟨_, pi_range2 hg hm (pa_w X [a, b]) hs hs2, fun F M0 M H σ Q s po => by
    have hA := da_cons h (da_cons h' da_nil (hs := hs2)) (hs := by rw [hs, hs2])
    refine hA F M0 M H σ _ s ?_
    cases m with
    | bad => exact po
    | err c => exact po
    | ok lo =>
      cases k with
      | bad => exact po
      | err c => exact po
      | ok hi =>
        have po : Po (ofO (rangeO lo hi)) _ _ := po
        obtain ⟨xs, e, k⟩ := po.ofO
        obtain ⟨hb, rfl⟩ := rangeO_some e
        intro vs M1 H1 g r
        obtain ⟨v, r', rfl, r1, w, r'', rfl, r2, r3⟩ := r
        rw [show r'' = [] from r3, show v = .int lo from r1, show w = .int hi from r2]
        exact ⟨lo, hi, rfl, hb, k _ M1 H1 g it_range⟩⟩
/-! ### targets -/
def DG (X : Cx) (Γ : List Sl) (tg : Expr) (put : List Sl) (d : D) : Prop := ∀ F M0 M H σ v Q, S X.G F M0 M H σ Γ → Rep X.G M d v → (∀ M' H' σ', Same M M' → S X.G F M0 M' H' σ' put → Q σ' H') → wG X tg v σ H Q
theorem dg_name {n : Str} {d : D} (i : Nat) (hN : X.N.Nodup) (hi : X.N[i]? = some n := by rfl) (hl : Nat.blt i Γ.length = true := by rfl) (hx : Loc X.env.scope n := by first | exact Or.inl rfl | exact Or.inr rfl) (hf : X.fn n = true ∨ X.env.scope.names.lookup n = some .local := by first | exact .inl rfl | exact .inr rfl) :
    DG X Γ (.Name n pos) (Γ.set i (.ow (.imm d))) d := fun F M0 M H σ v Q s r q pins sh u I rv => by
  have p := pg_name (pos := pos) hN hi hx hf
  exact p.run pins sh σ H v u Q I rv (q M H _ (.refl _) (s.put (.refl s.mh) (show Own X.G M H (.imm d) v [] from ⟨rfl, r⟩) List.nodup_nil (fun _ z => nomatch z) (Nat.le_of_ble_eq_true hl)))
/-! ### loops -/
inductive Lo (S ω : Type) where
  | nx (s : S)
  | bk (s : S)
  | ex (o : ω)
def forX {α S ω : Type} (f : α → S → R (Lo S ω)) : List α → S → R (S ⊕ ω)
  | [], s => .ok (.inl s)
  | x :: xs, s => f x s >>= fun o => match o with
    | .nx s => forX f xs s
    | .bk s => .ok (.inl s)
    | .ex o => .ok (.inr o)
/-- a loop that is left at its end alone -/
def forS {α S : Type} (f : α → S → R S) : List α → S → R S
  | [], s => .ok s
  | x :: xs, s => f x s >>= fun s => forS f xs s
theorem forX_S {α S ω : Type} {f : α → S → R S} : ∀ (xs : List α) (s : S), forX (ω := ω) (fun x s => f x s >>= fun s => .ok (.nx s)) xs s = forS f xs s >>= fun s => .ok (.inl s)
  | [], s => rfl
  | x :: xs, s => by
    show ((f x s >>= fun s => .ok (Lo.nx s)) >>= _) = (f x s >>= fun s => forS f xs s) >>= _
    cases f x s with
    | bad => rfl
    | err c => rfl
    | ok s => exact forX_S xs s
def kLo {S ω : Type} (Γs : S → List Sl) (κ : ω → Kd) : Lo S ω → Kd
  | .nx s => { nx := some (Γs s), ct := some (Γs s) }
  | .bk s => { bk := some (Γs s) }
  | .ex o => (κ o).rr
theorem st_for {σs : Type} {Γs : σs → List Sl} {ei : α → D} {mi : R (List α)} {mb : α → σs → R (Lo σs ω)} {κ : ω → Kd} {put : α → σs → List Sl} {iter : Expr} {body : List Stmt} (s0 : σs) (hp : PassesOwn (model X.prog X.w) X.A X.env X.xe) (hc : X.calm = true)
    (hi : DI X W Γ tg iter (fun xs => xs.map ei) mi) (hg : ∀ s x, DG X (Γs s) tg (put x s) (ei x)) (hb : ∀ s x, Bk X W Γe (put x s) body (kLo Γs κ) (mb x s)) (h0 : Wk (Γs s0) Γ) (hw : Wk Γe Γ)
    (hs : ∀ x, foldedSetIterable iter X.env x = pure x := by intro _; rfl) : St1 X W Γe Γ (.For tg iter body [] pos) (kSum (fun s => .n (Γs s)) fun o => (κ o).rr) (mi >>= fun xs => forX mb xs s0) :=
  smk ⟨_, ps_for hp hc (pi_w X iter tg) (pg_w X tg) (pss_w X body) hs, fun F M0 M H σ D st po => by
    refine hi F M0 M H σ _ st (po.bind.imp (fun xs _ k J M1 H1 g1 it => ?_) fun c z => er_wk st hw z)
    have st1 := (st.grow g1)
    obtain ⟨b1, b2⟩ := st1.rel
    refine ⟨fun i m σ H => m = xs.length - i ∧ i ≤ xs.length ∧ ∃ M s, S X.G F M1 M H σ (Γs s) ∧ Po (forX mb (xs.drop i) s) (fun o => Kn X.G F M0 D (kSum (fun s => .n (Γs s)) (fun o => (κ o).rr) o)) (fun c => ∀ M' H' σ', S X.G F M0 M' H' σ' Γe → Er X.G W c σ' H'),
      ⟨xs.length, by simp, Nat.zero_le _, M1, s0, (st1.wk h0).base_in (.refl _) b1, k⟩, ?_⟩
    rintro i m σ H ⟨rfl, hi, M2, s, s2, k⟩
    have hm : Same M1 M2 := s2.rel.1
    obtain ⟨h1, h2⟩ := it M2 H i hm s2.mh
    by_cases hlt : i < xs.length
    · have ex : xs[i]? = some xs[i] := List.getElem?_eq_getElem hlt
      have ed : (xs.map ei)[i]? = some (ei xs[i]) := by rw [List.getElem?_map, ex]; rfl
      obtain ⟨go, yl⟩ := h1 _ ed
      rw [List.drop_eq_getElem_cons hlt] at k
      have k := Po.bind (m := mb xs[i] s) k
      refine .inr ⟨go, fun σ' H' => ∃ M s, S X.G F M1 M H' σ' (Γs s) ∧ Po (forX mb (xs.drop (i + 1)) s) (fun o => Kn X.G F M0 D (kSum (fun s => .n (Γs s)) (fun o => (κ o).rr) o)) (fun c => ∀ M' H' σ', S X.G F M0 M' H' σ' Γe → Er X.G W c σ' H'),
        fun σ' H' ⟨M, s, q1, q2⟩ => ⟨xs.length - (i + 1), by omega, rfl, hlt, M, s, q1, q2⟩, fun x H' y => ?_⟩
      obtain ⟨M3, g3, r3⟩ := yl x H' y
      refine hg s xs[i] F M1 M3 H' σ x _ (s2.grow g3) r3 fun M4 H4 σ4 _ s4 => ?_
      refine hb s xs[i] F M1 M4 H4 σ4 _ s4 (k.imp (fun o _ k => ?_) fun c z M' H' σ' st => z M' H' σ' (st.base_out b1 b2))
      cases o with
      | nx s' =>
        have k : Po (forX mb (xs.drop (i + 1)) s') _ _ := k
        exact ⟨fun Γ e M H σ st => ⟨M, s', by cases e; exact st, k⟩, fun t Γ e => (nomatch e), fun Γ e => (nomatch e), fun Γ e M H σ st => ⟨M, s', by cases e; exact st, k⟩⟩
      | bk s' =>
        have k : Kn X.G F M0 D (.n (Γs s')) := k
        exact ⟨fun Γ e => (nomatch e), fun t Γ e => (nomatch e), fun Γ e M H σ st => k.nx Γ e M H σ (st.base_out b1 b2), fun Γ e => (nomatch e)⟩
      | ex o =>
        have k : Kn X.G F M0 D (κ o).rr := k
        exact ⟨fun Γ e => (nomatch e), fun t Γ e M H σ v st => k.rt t Γ e M H σ v (st.base_out b1 b2), fun Γ e => (nomatch e), fun Γ e => (nomatch e)⟩
    · have e : xs.drop i = [] := List.drop_eq_nil_of_le (by omega)
      rw [e] at k
      have k : Kn X.G F M0 D (.n (Γs s)) := k
      exact .inl ⟨h2 (by rw [List.length_map]; omega), k.nx _ rfl M2 H σ (s2.base_out b1 b2)⟩⟩
theorem st_forS {σs : Type} {Γs : σs → List Sl} {ei : α → D} {mi : R (List α)} {mb : α → σs → R σs} {put : α → σs → List Sl} {iter : Expr} {body : List Stmt} (s0 : σs) (hp : PassesOwn (model X.prog X.w) X.A X.env X.xe) (hc : X.calm = true)
    (hi : DI X W Γ tg iter (fun xs => xs.map ei) mi) (hg : ∀ s x, DG X (Γs s) tg (put x s) (ei x)) (hb : ∀ s x, Bk X W Γe (put x s) body (fun s => { nx := some (Γs s), ct := some (Γs s) }) (mb x s)) (h0 : Wk (Γs s0) Γ) (hw : Wk Γe Γ)
    (hs : ∀ x, foldedSetIterable iter X.env x = pure x := by intro _; rfl) : St1 X W Γe Γ (.For tg iter body [] pos) (fun s => .n (Γs s)) (mi >>= fun xs => forS mb xs s0) := ⟨fun F M0 M H σ D st po => by
  have h := st_for (κ := fun (o : Empty) => nomatch o) (pos := pos) (mb := fun x s => mb x s >>= fun s => .ok (.nx s)) s0 hp hc hi hg (fun s x => bk_map (κ' := kLo Γs _) (g := Lo.nx) (hb s x) fun o => ⟨rfl, .inr rfl, .inr rfl, .inr rfl⟩) h0 hw hs
  refine h F M0 M H σ D st ?_
  cases mi with
  | bad => exact po
  | err c => exact po
  | ok xs =>
    show Po (forX _ xs s0) _ _
    rw [forX_S]
    have po : Po (forS mb xs s0) _ _ := po
    revert po
    cases forS mb xs s0 with
    | bad => exact id
    | err c => exact id
    | ok s => exact id⟩
def whileN {S ω : Type} (mc : S → R Bool) (mb : S → R (Lo S ω)) : Nat → S → R (S ⊕ ω)
  | 0, _ => .bad
  | n + 1, s => mc s >>= fun b => if b then (mb s >>= fun o => match o with
    | .nx s => whileN mc mb n s
    | .bk s => .ok (.inl s)
    | .ex o => .ok (.inr o)) else .ok (.inl s)
theorem whileN_succ {S ω : Type} {mc : S → R Bool} {mb : S → R (Lo S ω)} {n : Nat} {s : S} : whileN mc mb (n + 1) s = (mc s >>= fun b => if b then (mb s >>= fun o => match o with
    | .nx s => whileN mc mb n s
    | .bk s => .ok (.inl s)
    | .ex o => .ok (.inr o)) else .ok (.inl s)) := rfl
open Classical in
noncomputable def whileX {S ω : Type} (mc : S → R Bool) (mb : S → R (Lo S ω)) (s : S) : R (S ⊕ ω) := if h : ∃ n, whileN mc mb n s ≠ .bad then whileN mc mb h.choose s else .bad
theorem whileN_mono {S ω : Type} {mc : S → R Bool} {mb : S → R (Lo S ω)} : ∀ (n : Nat) (s : S), whileN mc mb n s ≠ .bad → whileN mc mb (n + 1) s = whileN mc mb n s
  | 0, s, h => absurd rfl h
  | n + 1, s, h => by
    have e1 : whileN mc mb (n + 1) s = (mc s >>= fun b => if b then (mb s >>= fun o => match o with
      | .nx s => whileN mc mb n s
      | .bk s => .ok (.inl s)
      | .ex o => .ok (.inr o)) else .ok (.inl s)) := rfl
    have e2 : whileN mc mb (n + 1 + 1) s = (mc s >>= fun b => if b then (mb s >>= fun o => match o with
      | .nx s => whileN mc mb (n + 1) s
      | .bk s => .ok (.inl s)
      | .ex o => .ok (.inr o)) else .ok (.inl s)) := rfl
    rw [e1] at h ⊢
    rw [e2]
    cases hc : mc s with
    | bad => rfl
    | err c => rfl
    | ok b =>
      cases b with
      | false => rfl
      | true =>
        rw [hc] at h
        cases hb : mb s with
        | bad => rfl
        | err c => rfl
        | ok o =>
          rw [hb] at h
          cases o with
          | nx s' => exact whileN_mono n s' h
          | bk s' => rfl
          | ex o => rfl
theorem whileN_ge {S ω : Type} {mc : S → R Bool} {mb : S → R (Lo S ω)} {n : Nat} {s : S} (h : whileN mc mb n s ≠ .bad) : ∀ k, whileN mc mb (n + k) s = whileN mc mb n s
  | 0 => rfl
  | k + 1 => by
    have ih := whileN_ge h k
    rw [← ih, ← Nat.add_assoc]
    exact whileN_mono _ _ (by rw [ih]; exact h)
theorem whileX_of {S ω : Type} {mc : S → R Bool} {mb : S → R (Lo S ω)} {n : Nat} {s : S} (h : whileN mc mb n s ≠ .bad) : whileX mc mb s = whileN mc mb n s := by
  unfold whileX
  have hx : ∃ n, whileN mc mb n s ≠ .bad := ⟨n, h⟩
  rw [dif_pos hx]
  rcases Nat.le_total n hx.choose with q | q
  · have := whileN_ge h (hx.choose - n)
    rw [show n + (hx.choose - n) = hx.choose by omega] at this
    exact this
  · have := whileN_ge hx.choose_spec (n - hx.choose)
    rw [show hx.choose + (n - hx.choose) = n by omega] at this
    exact this.symm
theorem whileX_ne {S ω : Type} {mc : S → R Bool} {mb : S → R (Lo S ω)} {s : S} (h : whileX mc mb s ≠ .bad) : ∃ n, whileN mc mb n s = whileX mc mb s := by
  by_cases hx : ∃ n, whileN mc mb n s ≠ .bad
  · obtain ⟨n, q⟩ := hx
    exact ⟨n, (whileX_of q).symm⟩
  · unfold whileX at h
    rw [dif_neg hx] at h
    exact absurd rfl h
theorem whileX_eq {S ω : Type} (mc : S → R Bool) (mb : S → R (Lo S ω)) (s : S) : whileX mc mb s = mc s >>= fun b => if b then (mb s >>= fun o => match o with
    | .nx s => whileX mc mb s
    | .bk s => .ok (.inl s)
    | .ex o => .ok (.inr o)) else .ok (.inl s) := by
  have key : ∀ n, whileN mc mb (n + 1) s = mc s >>= fun b => if b then (mb s >>= fun o => match o with
      | .nx s => whileN mc mb n s
      | .bk s => .ok (.inl s)
      | .ex o => .ok (.inr o)) else .ok (.inl s) := fun n => rfl
  cases hc : mc s with
  | bad =>
    show _ = R.bad
    by_cases hx : ∃ n, whileN mc mb n s ≠ .bad
    · obtain ⟨n, q⟩ := hx
      cases n with
      | zero => exact absurd rfl q
      | succ n => rw [key n, hc] at q; exact absurd rfl q
    · unfold whileX; rw [dif_neg hx]
  | err c =>
    have q : whileN mc mb (0 + 1) s = .err c := by rw [key 0, hc]; rfl
    rw [whileX_of (n := 0 + 1) (by rw [q]; exact fun z => nomatch z), q]; rfl
  | ok b =>
    cases b with
    | false =>
      have q : whileN mc mb (0 + 1) s = .ok (.inl s) := by rw [key 0, hc]; rfl
      rw [whileX_of (n := 0 + 1) (by rw [q]; exact fun z => nomatch z), q]; rfl
    | true =>
      show _ = (mb s >>= fun o => match o with
        | .nx s => whileX mc mb s
        | .bk s => .ok (.inl s)
        | .ex o => .ok (.inr o))
      have key2 : ∀ n, whileN mc mb (n + 1) s = mb s >>= fun o => match o with
          | .nx s => whileN mc mb n s
          | .bk s => .ok (.inl s)
          | .ex o => .ok (.inr o) := fun n => by rw [key n, hc]; rfl
      cases hb : mb s with
      | bad =>
        show _ = R.bad
        by_cases hx : ∃ n, whileN mc mb n s ≠ .bad
        · obtain ⟨n, q⟩ := hx
          cases n with
          | zero => exact absurd rfl q
          | succ n => rw [key2 n, hb] at q; exact absurd rfl q
        · unfold whileX; rw [dif_neg hx]
      | err c =>
        have q : whileN mc mb (0 + 1) s = .err c := by rw [key2 0, hb]; rfl
        rw [whileX_of (n := 0 + 1) (by rw [q]; exact fun z => nomatch z), q]; rfl
      | ok o =>
        cases o with
        | bk s' =>
          have q : whileN mc mb (0 + 1) s = .ok (.inl s') := by rw [key2 0, hb]; rfl
          rw [whileX_of (n := 0 + 1) (by rw [q]; exact fun z => nomatch z), q]; rfl
        | ex o =>
          have q : whileN mc mb (0 + 1) s = .ok (.inr o) := by rw [key2 0, hb]; rfl
          rw [whileX_of (n := 0 + 1) (by rw [q]; exact fun z => nomatch z), q]; rfl
        | nx s' =>
          show _ = whileX mc mb s'
          have key3 : ∀ n, whileN mc mb (n + 1) s = whileN mc mb n s' := fun n => by rw [key2 n, hb]; rfl
          by_cases hx : ∃ n, whileN mc mb n s' ≠ .bad
          · obtain ⟨n, q⟩ := hx
            rw [whileX_of q, whileX_of (n := n + 1) (by rw [key3]; exact q), key3]
          · have hy : ¬ ∃ n, whileN mc mb n s ≠ .bad := fun ⟨n, q⟩ => by
              cases n with
              | zero => exact q rfl
              | succ n => rw [key3] at q; exact hx ⟨n, q⟩
            unfold whileX
            rw [dif_neg hx, dif_neg hy]
theorem st_while {σs : Type} {Γs : σs → List Sl} {mc : σs → R Bool} {mb : σs → R (Lo σs ω)} {κ : ω → Kd} {body : List Stmt} (s0 : σs) (hp : PassesOwn (model X.prog X.w) X.A X.env X.xe)
    (hc : ∀ s, DT X W (Γs s) c (mc s)) (hb : ∀ s, Bk X W Γe (Γs s) body (kLo Γs κ) (mb s)) (h0 : Wk (Γs s0) Γ) (hw : ∀ s, Wk Γe (Γs s)) : St1 X W Γe Γ (.While c body [] pos) (kSum (fun s => .n (Γs s)) fun o => (κ o).rr) (whileX mc mb s0) :=
  smk ⟨_, ps_while hp (pt_w X c) (pss_w X body), fun F M0 M H σ D st po => by
    have hne : whileX mc mb s0 ≠ .bad := fun z => by rw [z] at po; exact po
    obtain ⟨n, en⟩ := whileX_ne hne
    rw [← en] at po
    refine ⟨fun m σ H => ∃ M s, S X.G F M0 M H σ (Γs s) ∧ Po (whileN mc mb m s) (fun o => Kn X.G F M0 D (kSum (fun s => .n (Γs s)) (fun o => (κ o).rr) o)) (fun c => ∀ M' H' σ', S X.G F M0 M' H' σ' Γe → Er X.G W c σ' H'),
      ⟨n, M, s0, st.wk h0, po⟩, ?_⟩
    rintro m σ H ⟨M2, s, s2, k⟩
    cases m with
    | zero => exact k.elim
    | succ m =>
      rw [whileN_succ] at k
      refine hc s F M0 M2 H σ _ s2 (k.bind.imp (fun b _ k M3 H3 g3 => ?_) fun c z => er_wk s2 (hw s) z)
      cases b with
      | false =>
        have k : Kn X.G F M0 D (.n (Γs s)) := k
        exact k.nx _ rfl M3 H3 σ (s2.grow g3)
      | true =>
        rw [if_pos rfl] at k
        refine ⟨fun σ' H' => ∃ M s, S X.G F M0 M H' σ' (Γs s) ∧ Po (whileN mc mb m s) (fun o => Kn X.G F M0 D (kSum (fun s => .n (Γs s)) (fun o => (κ o).rr) o)) (fun c => ∀ M' H' σ', S X.G F M0 M' H' σ' Γe → Er X.G W c σ' H'),
          fun σ' H' q => ⟨m, Nat.lt_succ_self m, q⟩, ?_⟩
        refine hb s F M0 M3 H3 σ _ (s2.grow g3) (k.bind.imp (fun o _ k => ?_) fun c z => z)
        cases o with
        | nx s' =>
          have k : Po (whileN mc mb m s') _ _ := k
          exact ⟨fun Γ e M H σ st => ⟨M, s', by cases e; exact st, k⟩, fun t Γ e => (nomatch e), fun Γ e => (nomatch e), fun Γ e M H σ st => ⟨M, s', by cases e; exact st, k⟩⟩
        | bk s' =>
          have k : Kn X.G F M0 D (.n (Γs s')) := k
          exact ⟨fun Γ e => (nomatch e), fun t Γ e => (nomatch e), fun Γ e M H σ st => k.nx Γ e M H σ st, fun Γ e => (nomatch e)⟩
        | ex o =>
          have k : Kn X.G F M0 D (κ o).rr := k
          exact ⟨fun Γ e => (nomatch e), fun t Γ e M H σ v st => k.rt t Γ e M H σ v st, fun Γ e => (nomatch e), fun Γ e => (nomatch e)⟩⟩
/-- a while that is left at its test alone -/
noncomputable def whileS {S : Type} (mc : S → R Bool) (mb : S → R S) (s : S) : R S := whileX (ω := Empty) mc (fun s => mb s >>= fun s => .ok (.nx s)) s >>= fun o => match o with
  | .inl s => .ok s
  | .inr o => nomatch o
theorem whileS_eq {S : Type} (mc : S → R Bool) (mb : S → R S) (s : S) : whileS mc mb s = mc s >>= fun b => if b then (mb s >>= fun s => whileS mc mb s) else .ok s := by
  unfold whileS
  rw [whileX_eq]
  cases mc s with
  | bad => rfl
  | err c => rfl
  | ok b =>
    cases b with
    | false => rfl
    | true =>
      show ((mb s >>= fun s => .ok (Lo.nx s)) >>= _) >>= _ = mb s >>= _
      cases mb s with
      | bad => rfl
      | err c => rfl
      | ok s => rfl
theorem st_whileS {σs : Type} {Γs : σs → List Sl} {mc : σs → R Bool} {mb : σs → R σs} {body : List Stmt} (s0 : σs) (hp : PassesOwn (model X.prog X.w) X.A X.env X.xe)
    (hc : ∀ s, DT X W (Γs s) c (mc s)) (hb : ∀ s, Bk X W Γe (Γs s) body (fun s => { nx := some (Γs s), ct := some (Γs s) }) (mb s)) (h0 : Wk (Γs s0) Γ) (hw : ∀ s, Wk Γe (Γs s)) : St1 X W Γe Γ (.While c body [] pos) (fun s => .n (Γs s)) (whileS mc mb s0) := ⟨fun F M0 M H σ D st po => by
  have h := st_while (κ := fun (o : Empty) => nomatch o) (pos := pos) (mb := fun s => mb s >>= fun s => .ok (.nx s)) s0 hp hc (fun s => bk_map (κ' := kLo Γs _) (g := Lo.nx) (hb s) fun o => ⟨rfl, .inr rfl, .inr rfl, .inr rfl⟩) h0 hw
  refine h F M0 M H σ D st ?_
  unfold whileS at po
  revert po
  cases whileX mc (fun s => mb s >>= fun s => R.ok (Lo.nx (ω := Empty) s)) s0 with
  | bad => exact id
  | err c => exact id
  | ok o =>
    cases o with
    | inl s => exact id
    | inr o => exact nomatch o⟩
end
/-! ### a def -/
section
variable {P : Program} {w : World} {K : PySem.W.Frag} {mg : Str → Option Value} {base : Heap}
theorem Reps.sat {G : Ctx} {M H : Hp} : ∀ {ds : List D} {vs : List V}, Reps G M ds vs → Sat G M H (ds.map fun d => .ow (.imm d)) (vs.map some) []
  | [], vs, h => by rw [show vs = [] from h]; exact ⟨rfl, rfl⟩
  | d :: ds, vs, ⟨v, r, h1, h2, h3⟩ => ⟨v, r.map some, [], [], by rw [h1]; rfl, rfl, ⟨rfl, h2⟩, Reps.sat h3⟩
theorem Sat.app {G : Ctx} {M H : Hp} : ∀ {Γ Γ' : List Sl} {σ σ' : St} {as bs : List Addr}, Sat G M H Γ σ as → Sat G M H Γ' σ' bs → Sat G M H (Γ ++ Γ') (σ ++ σ') (as ++ bs)
  | [], Γ', σ, σ', as, bs, ⟨h1, h2⟩, k => by rw [h1, h2]; exact k
  | .un :: Γ, Γ', σ, σ', as, bs, ⟨x, r, h1, h2⟩, k => ⟨x, r ++ σ', by rw [h1]; rfl, Sat.app h2 k⟩
  | .ow t :: Γ, Γ', σ, σ', as, bs, ⟨v, r, a1, a2, h1, h2, h3, h4⟩, k => ⟨v, r ++ σ', a1, a2 ++ bs, by rw [h1]; rfl, by rw [h2, List.append_assoc], h3, Sat.app h4 k⟩
  | .pn v t :: Γ, Γ', σ, σ', as, bs, ⟨r, a1, a2, h1, h2, h3, h4⟩, k => ⟨r ++ σ', a1, a2 ++ bs, by rw [h1]; rfl, by rw [h2, List.append_assoc], h3, Sat.app h4 k⟩
theorem Sat.uns {G : Ctx} {M H : Hp} : ∀ (n : Nat), Sat G M H (List.replicate n .un) (List.replicate n none) []
  | 0 => ⟨rfl, rfl⟩
  | n + 1 => ⟨none, List.replicate n none, rfl, Sat.uns n⟩
/-- how a def's end is said: it hands back f a, or falls off its end with None -/
def kRet {ρ : Type} (er : ρ → T) (n : Nat) (r : ρ) : Kd := { rt := some (er r, List.replicate n .un) }
def kRetN {ρ : Type} (er : ρ → T) (n : Nat) (r : ρ) : Kd := { rt := some (er r, List.replicate n .un), nx := some (List.replicate n .un) }
/-- THE RULE of a def that changes nothing -/
theorem fn_pure {x qual : Str} {st : Stmt} {f : Addr} {fd : FuncData} {N ps : List Str} {k : Nat} {α ρ : Type} {args : α → List D} {er : ρ → T} {g : α → R ρ} (F : Fun K x qual st f fd) (Sc : FnScope N ps (defScope st))
    (hl : ∀ a, (args a).length = ps.length)
    (hb : ∀ (cdv : Value) (A : Around) (outer : List Env) (s : Shared) (H : Hp) (E : XK), Room k (A.deeper (PyProof.Rows.envOfC qual (defScope st) s.heap.objs.size f cdv)) → ∀ a,
      Bk (cxOf (L2.CX P w) P w K mg base N qual (defScope st) f cdv A outer s H E) (fun cls d _ H => E cls d H) (List.replicate N.length .un) ((args a).map (fun d => .ow (.imm d)) ++ List.replicate (N.length - ps.length) .un) (defBody st) (kRet er N.length) (g a)) :
    FnOk P w K mg base (L2.CX P w) (k + 1) f fd ps (SpF ⟨K, mg⟩ args er g) := by
  refine F.okX Sc (fun vs H Q E h => ?_) (fun cdv A outer s H vs Q E hr h => ?_)
  · obtain ⟨a, M, _, r, _⟩ := h
    rw [r.len, hl]
  · obtain ⟨a, M, mh, r, po⟩ := h
    refine ⟨_, pss_w _ _, hb cdv A outer s H E hr a H M M H _ _ ?_ ?_⟩
    · refine ⟨[], ⟨.refl _, .refl _, mh, fun _ z => .inl z, List.nodup_nil, (fun _ z => nomatch z), fun _ z => nomatch z⟩, ?_⟩
      have e : vs.length = ps.length := by rw [r.len, hl]
      unfold L2.start
      rw [e]
      exact Sat.app (as := []) (bs := []) r.sat (Sat.uns _)
    · refine po.imp (fun x _ q => ⟨fun Γ e => (nomatch e), fun t Γ e M' H' σ v st => ?_, fun Γ e => (nomatch e), fun Γ e => (nomatch e)⟩) fun c z M' H' σ' st C hC => z M' H' ⟨st.fh, st.rel.1, st.mh, st.rel.2⟩ C hC
      have e' : (er x, List.replicate N.length Sl.un) = (t, Γ) := Option.some.inj e
      obtain ⟨e1, e2⟩ := Prod.mk.inj e'
      subst e1; subst e2
      obtain ⟨as, f, ⟨v', r', a1, a2, z1, z2, z3, z4⟩⟩ := st
      obtain ⟨z5, z6⟩ := List.cons.inj z1
      cases z5
      subst z2
      have nd := f.nd
      rw [List.nodup_append] at nd
      exact q v M' H' a1 ⟨f.fh, f.mm, f.mh, f.nw⟩ z3 nd.1 fun b hb => ⟨f.fa b (List.mem_append_left _ hb), f.ma b (List.mem_append_left _ hb)⟩
end
end Cn
/-! Cn5: lists and tuples -/
namespace Cn
open PySem PySem.Spec L2
/-! ### lists that are read -/
abbrev DL (X : Cx) (W : WX) (Γ : List Sl) (e : Expr) {α : Type} (emb : α → List D) (m : R α) : Prop :=
  JQ X Γ (wE X e) fun F M0 M H σ Q => Po m (fun x => ∀ a vs M' H', Gr M H M' H' → SqL X.K H' a vs → Reps X.G M' (emb x) vs → Q (.ref a) H') (fun c => ∀ M' H', Gr M H M' H' → Er X.G W c σ H')
/-- .. a list of the program's run -/
abbrev DLt (X : Cx) (W : WX) (Γ : List Sl) (e : Expr) {α : Type} (emb : α → List D) (m : R α) : Prop :=
  JQ X Γ (wE X e) fun F M0 M H σ Q => Po m (fun x => ∀ a vs M' H', Gr M H M' H' → H' a = some (.lst vs) → Reps X.G M' (emb x) vs → Q (.ref a) H') (fun c => ∀ M' H', Gr M H M' H' → Er X.G W c σ H')
section
variable {X : Cx} {W : WX} {Γe Γ : List Sl} {a b e c tg : Expr} {es : List Expr} {α β γ ω ω1 : Type} {pos : Pos}
theorem dl_t {emb : α → List D} {m : R α} (h : DLt X W Γ e emb m) : DL X W Γ e emb m := ⟨fun F M0 M H σ Q s po => h F M0 M H σ Q s (po.imp (fun x _ k a vs M' H' g hl r => k a vs M' H' g (.of hl) r) fun _ z => z)⟩
theorem dt_lst' {emb : α → List D} {m : R α} (h : DD X W Γ e (fun x => .lst (emb x)) m) : DLt X W Γ e emb m := ⟨fun F M0 M H σ Q s po => h F M0 M H σ Q s (po.imp (fun x _ k v M' H' g r => by
  obtain ⟨a, vs, rfl, h1, h2⟩ := r
  exact k a vs M' H' g (g.mh _ _ h1) h2) fun _ z => z)⟩
theorem dlt_imm {ei : β → D} {m : R (List β)} (h : DD X W Γ e (fun xs => .lst (xs.map ei)) m) : DLt X W Γ e (fun xs => xs.map ei) m := dt_lst' h
theorem dl_frl {ei : β → D} {m : R (List β)} (h : DD X W Γ e (fun xs => .frl (xs.map ei)) m) : DL X W Γ e (fun xs => xs.map ei) m := ⟨fun F M0 M H σ Q s po => h F M0 M H σ Q s (po.imp (fun x _ k v M' H' g r => by
  obtain ⟨a, vs, rfl, h1, h2⟩ := r
  exact k a vs M' H' g (g.mh.seq h1) h2) fun _ z => z)⟩
theorem dl_imm {ei : β → D} {m : R (List β)} (h : DD X W Γ e (fun xs => .lst (xs.map ei)) m) : DL X W Γ e (fun xs => xs.map ei) m := dl_t (dlt_imm h)
theorem map_imm {ε : β → D} (xs : List β) : (xs.map fun x => T.imm (ε x)) = (xs.map ε).map .imm := by rw [List.map_map]; rfl
theorem dlt_own {ei : β → D} {m : R (List β)} (h : DB X W Γ e (fun xs => .lst (xs.map fun x => .imm (ei x))) m) : DLt X W Γ e (fun xs => xs.map ei) m := ⟨fun F M0 M H σ Q s po => h F M0 M H σ Q s (po.imp (fun x _ k v M' H' as g o => by
  obtain ⟨a, vs, r, rfl, h1, h2, h3⟩ := o
  rw [map_imm] at h3
  exact k a vs M' H' g h2 (Owns.of_imm h3).1) fun _ z => z)⟩
theorem dl_own {ei : β → D} {m : R (List β)} (h : DB X W Γ e (fun xs => .lst (xs.map fun x => .imm (ei x))) m) : DL X W Γ e (fun xs => xs.map ei) m := dl_t (dlt_own h)
/-! ### a new list, a new tuple -/
theorem new_list {G : Ctx} {M H M1 H1 : Hp} {ds : List D} {vs : List V} {Q : VK} (g : Gr M H M1 H1) (r : Reps G M1 ds vs) (k : WF G M H (.lst (ds.map .imm)) Q) : ∀ p, H1 p = none → Q (.ref p) (upd H1 p (.lst vs)) := fun p hp => by
  have hm : M1 p = none := by
    cases e : M1 p with
    | none => rfl
    | some o => rw [g.mh p o e] at hp; cases hp
  refine k (.ref p) M1 _ [p] ⟨fun b o e => ?_, g.mm, fun b o e => ?_, g.nw⟩ ⟨p, vs, [], rfl, rfl, upd_same, Owns.imm r⟩ (by simp) fun b hb => ?_
  · rw [upd_ne (ne_of_none (g.hh b o e) hp)]; exact g.hh b o e
  · rw [upd_ne (ne_of_none e hm)]; exact g.mh b o e
  · have e : b = p := by simpa using hb
    subst e
    exact ⟨g.hh.free hp, hm⟩
theorem new_tup {G : Ctx} {M H M1 H1 : Hp} {ds : List D} {vs : List V} {Q : VK} (g : Gr M H M1 H1) (r : Reps G M1 ds vs) (k : WD G M H (.tup ds) Q) : ∀ p, H1 p = none → Q (.ref p) (upd H1 p (.tup vs)) := fun p hp => by
  have hm : M1 p = none := by
    cases e : M1 p with
    | none => rfl
    | some o => rw [g.mh p o e] at hp; cases hp
  have mm : Same M1 (upd M1 p (.tup vs)) := fun b o e => by rw [upd_ne (ne_of_none e hm)]; exact e
  refine k (.ref p) (upd M1 p (.tup vs)) _ ⟨fun b o e => ?_, g.mm.trans mm, fun b o e => ?_, fun b z => ?_⟩ ⟨p, vs, rfl, .of upd_same, Reps.mono mm _ _ r⟩
  · rw [upd_ne (ne_of_none (g.hh b o e) hp)]; exact g.hh b o e
  · by_cases hb : b = p
    · subst hb; rw [upd_same] at e ⊢; exact e
    · rw [upd_ne hb] at e ⊢; exact g.mh b o e
  · by_cases hb : b = p
    · subst hb; exact .inr (g.hh.free hp)
    · rw [upd_ne hb] at z; exact g.nw b z
theorem small_len {n : Nat} (h : n ≤ 100000) : n ≤ sizeLine := Nat.le_trans h (by decide)
/-- [a, b, ..] -/
theorem df_disp {args : α → List D} {m : R α} {ei : β → D} (h : DA X W Γ es args m) (g : α → List β) (he : ∀ x, args x = (g x).map ei := by intro _; rfl) (hz : ∀ x, Nat.ble (args x).length 100000 = true := by intro _; rfl) : DF X W Γ (.List es pos) (fun xs => .lst (xs.map fun x => .imm (ei x))) (m >>= fun x => .ok (g x)) :=
  dmk ⟨_, pe_lst (pa_w X es), fun F M0 M H σ Q s po => h F M0 M H σ _ s (po.bind.imp (fun x _ k vs M1 H1 g1 r => by
    refine ⟨by rw [r.len]; exact small_len (Nat.le_of_ble_eq_true (hz x)), new_list g1 r ?_⟩
    rw [he x, ← map_imm]
    exact k) fun _ z => z)⟩
/-- (a, b, ..) -/
theorem dd_tup {args : α → List D} {m : R α} {et : β → D} {x1} (h : DA X W Γ es args m) (g : α → β) (he : ∀ x, et (g x) = .tup (args x) := by intro _; rfl) (hz : ∀ x, Nat.ble (args x).length 100000 = true := by intro _; rfl) : DD X W Γ (.Tuple es x1 pos) et (m >>= fun x => .ok (g x)) :=
  dmk ⟨_, pe_tup (pa_w X es), fun F M0 M H σ Q s po => h F M0 M H σ _ s (po.bind.imp (fun x _ k vs M1 H1 g1 r => by
    refine ⟨by rw [r.len]; exact small_len (Nat.le_of_ble_eq_true (hz x)), new_tup g1 r ?_⟩
    rw [← he x]
    exact k) fun _ z => z)⟩
/-! ### items -/
theorem ixN_map {α β : Type} {f : α → β} {xs : List α} {i : Int} : atI (xs.map f) i = (atI xs i).map f := by
  unfold atI
  rw [List.length_map]
  cases ixN xs.length i with
  | none => rfl
  | some j => show (xs.map f)[j]? = (xs[j]?).map f; rw [List.getElem?_map]
theorem reps_at {G : Ctx} {M : Hp} {ds : List D} {vs : List V} {i : Int} {d : D} (r : Reps G M ds vs) (h : atI ds i = some d) : ∃ v, atI vs i = some v ∧ Rep G M d v := by
  unfold atI at h ⊢
  rw [r.len]
  cases e : ixN ds.length i with
  | none => rw [e] at h; cases h
  | some j =>
    rw [e] at h
    exact r.get h
theorem dd_ixL {ei : β → D} {ma : R (List β)} {mb : R Int} (ha : DL X W Γ a (fun xs => xs.map ei) ma) (hb : DD X W Γ b D.int mb) (hs : PlainIx b := by exact fun _ _ => rfl) : DD X W Γ (.Subscript a b pos) ei (ma >>= fun xs => mb >>= fun i => ofO (atI xs i)) :=
  dmk ⟨_, pe_ix ix_list (pe_w X a) (pe_w X b) hs, fun F M0 M H σ Q s po => ha F M0 M H σ _ s (po.bind.imp (fun xs _ k p vs M1 H1 g1 hl r1 => hb F M0 M1 H1 σ _ (s.grow g1) (k.bind.imp (fun i _ k v M2 H2 g2 r2 => by
    obtain ⟨z, e, k⟩ := k.ofO
    have e' : atI (xs.map ei) i = some (ei z) := by rw [ixN_map, e]; rfl
    obtain ⟨v', q1, q2⟩ := reps_at (Reps.mono g2.mm _ _ r1) e'
    exact ⟨p, vs, i, v', rfl, r2, g2.hh.seq hl, q1, k v' M2 H2 (g1.trans g2) q2⟩) fun c z M' H' g => z M' H' (g1.trans g))) fun _ z => z)⟩
theorem dd_ixT {ei : β → D} {ma : R (List β)} {mb : R Int} (ha : DD X W Γ a (fun xs => .tup (xs.map ei)) ma) (hb : DD X W Γ b D.int mb) (hs : PlainIx b := by exact fun _ _ => rfl) : DD X W Γ (.Subscript a b pos) ei (ma >>= fun xs => mb >>= fun i => ofO (atI xs i)) :=
  dmk ⟨_, pe_ix ix_tup (pe_w X a) (pe_w X b) hs, fun F M0 M H σ Q s po => ha F M0 M H σ _ s (po.bind.imp (fun xs _ k v M1 H1 g1 r1 => hb F M0 M1 H1 σ _ (s.grow g1) (k.bind.imp (fun i _ k w M2 H2 g2 r2 => by
    obtain ⟨p, vs, rfl, hl, r1⟩ := r1
    obtain ⟨z, e, k⟩ := k.ofO
    have e' : atI (xs.map ei) i = some (ei z) := by rw [ixN_map, e]; rfl
    obtain ⟨v', q1, q2⟩ := reps_at (Reps.mono g2.mm _ _ r1) e'
    exact ⟨p, vs, i, v', rfl, r2, same_sqt (g1.mh.trans g2.hh) hl, q1, k v' M2 H2 (g1.trans g2) q2⟩) fun c z M' H' g => z M' H' (g1.trans g))) fun _ z => z)⟩
/-- t[2], t a tuple of known form -/
theorem dd_ixP {et : α → D} {ei : β → D} {ma : R α} {i : Int} {j pb} (ha : DD X W Γ a et ma) (ds : α → List D) (g : α → β) (h1 : ∀ x, et x = .tup (ds x) := by intro _; rfl) (h2 : ∀ x, atI (ds x) i = some (ei (g x)) := by intro _; rfl) :
    DD X W Γ (.Subscript a (.Constant (.int i) j pb) pos) ei (ma >>= fun x => .ok (g x)) :=
  dmk ⟨_, pe_ix ix_tup (pe_w X a) (pe_w X _) (fun _ _ => rfl), fun F M0 M H σ Q s po => ha F M0 M H σ _ s (po.bind.imp (fun x _ k v M1 H1 g1 r1 => dd_int (W := W) F M0 M1 H1 σ _ (s.grow g1) (fun w M2 H2 g2 r2 => by
    rw [h1 x] at r1
    obtain ⟨p, vs, rfl, hl, r1⟩ := r1
    obtain ⟨v', q1, q2⟩ := reps_at (Reps.mono g2.mm _ _ r1) (h2 x)
    exact ⟨p, vs, i, v', rfl, r2, same_sqt (g1.mh.trans g2.hh) hl, q1, k v' M2 H2 (g1.trans g2) q2⟩)) fun _ z => z)⟩
/-! ### len -/
theorem dd_lenL {ei : β → D} {m : R (List β)} {p : Pos} (h : DL X W Γ e (fun xs => xs.map ei) m) (hm : X.mg "len" = none) (hg : Gl X "len" := by rfl) (hs : starEach [e] X.env = (false, eval e X.env) :: starEach [] X.env := by exact star_cons rfl) : DD X W Γ (.Call (.Name "len" p) [e] [] pos) D.int (m >>= fun xs => .ok (xs.length : Int)) :=
  dmk ⟨_, pe_callB call_len_seq hg hm boot_len (pa_cons (pe_w X e) pa_nil (hs := hs)) (he := hs), fun F M0 M H σ Q s po => h F M0 M H σ _ s (po.bind.imp (fun xs _ k a vs M1 H1 g1 hl r1 => ⟨a, vs, rfl, .inl hl, k _ M1 H1 g1 (by
    rw [r1.len, List.length_map]; rfl)⟩) fun _ z => z)⟩
theorem dd_lenT {ei : β → D} {m : R (List β)} {p : Pos} (h : DD X W Γ e (fun xs => .tup (xs.map ei)) m) (hm : X.mg "len" = none) (hg : Gl X "len" := by rfl) (hs : starEach [e] X.env = (false, eval e X.env) :: starEach [] X.env := by exact star_cons rfl) : DD X W Γ (.Call (.Name "len" p) [e] [] pos) D.int (m >>= fun xs => .ok (xs.length : Int)) :=
  dmk ⟨_, pe_callB call_len_seq hg hm boot_len (pa_cons (pe_w X e) pa_nil (hs := hs)) (he := hs), fun F M0 M H σ Q s po => h F M0 M H σ _ s (po.bind.imp (fun xs _ k v M1 H1 g1 r1 => by
    obtain ⟨a, vs, rfl, hl, r1⟩ := r1
    exact ⟨a, vs, rfl, .inr (same_sqt g1.mh hl), k _ M1 H1 g1 (by rw [r1.len, List.length_map]; rfl)⟩) fun _ z => z)⟩
/-! ### slices -/
def cutL {α : Type} (xs : List α) (lo hi : Option Int) : List α := (xs.drop (HT.sIx xs.length 0 lo)).take (HT.sIx xs.length xs.length hi - HT.sIx xs.length 0 lo)
theorem cutL_map {f : α → β} {xs : List α} {lo hi : Option Int} : cutL (xs.map f) lo hi = (cutL xs lo hi).map f := by
  unfold cutL
  rw [List.length_map, List.map_take, List.map_drop]
theorem reps_cut {G : Ctx} {M : Hp} {ds : List D} {vs : List V} {lo hi : Option Int} (r : Reps G M ds vs) : Reps G M (cutL ds lo hi) (cutV vs lo hi) := by
  unfold cutL cutV
  rw [r.len]
  exact (r.drop _).take _
/-- a slice's part -/
def DO (X : Cx) (W : WX) (Γ : List Sl) (e : Option Expr) (m : R (Option Int)) : Prop :=
  ∃ te, PO X e te ∧ ∀ F M0 M H σ Q, S X.G F M0 M H σ Γ → Po m (fun x => ∀ M' H', Gr M H M' H' → Q x H') (fun c => ∀ M' H', Gr M H M' H' → Er X.G W c σ H') → te σ H Q
theorem do_none : DO X W Γ none (.ok none) := ⟨_, po_none, fun F M0 M H σ Q s po => po M H (.refl s.mh)⟩
theorem do_some {m : R Int} (h : DD X W Γ e D.int m) : DO X W Γ (some e) (m >>= fun i => .ok (some i)) :=
  ⟨_, po_some (pe_w X e), fun F M0 M H σ Q s po => h F M0 M H σ _ s (po.bind.imp (fun i _ k v M1 H1 g1 r => ⟨i, r, k M1 H1 g1⟩) fun _ z => z)⟩
theorem df_slL {ei : β → D} {m : R (List β)} {lo hi : Option Expr} {ml mh : R (Option Int)} {p2 : Pos} (h : DL X W Γ e (fun xs => xs.map ei) m) (hl : DO X W Γ lo ml) (hh : DO X W Γ hi mh) :
    DF X W Γ (.Subscript e (.Slice lo hi none p2) pos) (fun xs => .lst (xs.map fun x => .imm (ei x))) (m >>= fun xs => ml >>= fun i => mh >>= fun j => .ok (cutL xs i j)) := by
  obtain ⟨tl, pl, ql⟩ := hl
  obtain ⟨th, ph, qh⟩ := hh
  exact dmk ⟨_, pe_slice sl_list (pe_w X e) pl ph, fun F M0 M H σ Q s po => h F M0 M H σ _ s (po.bind.imp (fun xs _ k a vs M1 H1 g1 hq r1 => ql F M0 M1 H1 σ _ (s.grow g1) (k.bind.imp (fun i _ k M2 H2 g2 => qh F M0 M2 H2 σ _ (s.grow (g1.trans g2)) (k.bind.imp (fun j _ k M3 H3 g3 => by
    refine ⟨a, vs, rfl, (g2.hh.trans g3.hh).seq hq, new_list ((g1.trans g2).trans g3) (ds := cutL (xs.map ei) i j) (reps_cut (Reps.mono (g2.mm.trans g3.mm) _ _ r1)) ?_⟩
    rw [cutL_map, ← map_imm]
    exact k) fun c z M' H' g => z M' H' ((g1.trans g2).trans g))) fun c z M' H' g => z M' H' (g1.trans g))) fun _ z => z)⟩
theorem dd_slT {ei : β → D} {m : R (List β)} {lo hi : Option Expr} {ml mh : R (Option Int)} {p2 : Pos} (h : DD X W Γ e (fun xs => .tup (xs.map ei)) m) (hl : DO X W Γ lo ml) (hh : DO X W Γ hi mh) :
    DD X W Γ (.Subscript e (.Slice lo hi none p2) pos) (fun xs => .tup (xs.map ei)) (m >>= fun xs => ml >>= fun i => mh >>= fun j => .ok (cutL xs i j)) := by
  obtain ⟨tl, pl, ql⟩ := hl
  obtain ⟨th, ph, qh⟩ := hh
  exact dmk ⟨_, pe_slice sl_tupA (pe_w X e) pl ph, fun F M0 M H σ Q s po => h F M0 M H σ _ s (po.bind.imp (fun xs _ k v M1 H1 g1 r1 => ql F M0 M1 H1 σ _ (s.grow g1) (k.bind.imp (fun i _ k M2 H2 g2 => qh F M0 M2 H2 σ _ (s.grow (g1.trans g2)) (k.bind.imp (fun j _ k M3 H3 g3 => by
    obtain ⟨a, vs, rfl, hq, r1⟩ := r1
    have r3 := Reps.mono (g2.mm.trans g3.mm) _ _ r1
    have k : WD X.G M H (.tup (cutL (xs.map ei) i j)) Q := by rw [cutL_map]; exact k
    refine ⟨a, vs, rfl, same_sqt (g1.mh.trans (g2.hh.trans g3.hh)) hq, fun hw => ?_, fun _ => new_tup ((g1.trans g2).trans g3) (reps_cut r3) k⟩
    refine k (.ref a) M3 H3 ((g1.trans g2).trans g3) ⟨a, vs, rfl, same_sqt (g2.mm.trans g3.mm) hq, ?_⟩
    have e1 : cutL (xs.map ei) i j = xs.map ei := by
      unfold cutL
      rw [← r1.len, hw.1, hw.2, List.drop_zero, Nat.sub_zero, r1.len, List.take_length]
    rw [e1]
    exact r3) fun c z M' H' g => z M' H' ((g1.trans g2).trans g))) fun c z M' H' g => z M' H' (g1.trans g))) fun _ z => z)⟩
/-! ### + and * -/
def catO {α : Type} (xs ys : List α) : Option (List α) := if xs.length + ys.length ≤ 16777216 then some (xs ++ ys) else none
noncomputable def repO {α : Type} (xs : List α) (k : Int) : Option (List α) := @ite _ (-(2 ^ 63) ≤ k ∧ k < 2 ^ 63 ∧ xs.length * k.toNat ≤ 16777216) (Classical.propDecidable _) (some (List.replicate k.toNat xs).flatten) none
theorem df_cat {ei : β → D} {ma mb : R (List β)} (ha : DLt X W Γ a (fun xs => xs.map ei) ma) (hb : DLt X W Γ b (fun xs => xs.map ei) mb) :
    DF X W Γ (.BinOp a .Add b pos) (fun xs => .lst (xs.map fun x => .imm (ei x))) (ma >>= fun xs => mb >>= fun ys => ofO (catO xs ys)) :=
  dmk ⟨_, pe_op op_cat (pe_w X a) (pe_w X b), fun F M0 M H σ Q s po => ha F M0 M H σ _ s (po.bind.imp (fun xs _ k p vs M1 H1 g1 hl r1 => hb F M0 M1 H1 σ _ (s.grow g1) (k.bind.imp (fun ys _ k q ws M2 H2 g2 hl2 r2 => by
    obtain ⟨z, e, k⟩ := k.ofO
    unfold catO at e
    by_cases hc : xs.length + ys.length ≤ 16777216
    · rw [if_pos hc] at e
      cases e
      refine ⟨p, q, vs, ws, rfl, rfl, g2.hh _ _ hl, hl2, ?_, new_list (g1.trans g2) (ds := xs.map ei ++ ys.map ei) ((Reps.mono g2.mm _ _ r1).app r2) ?_⟩
      · rw [r1.len, r2.len, List.length_map, List.length_map, sizeLine_eq]; exact hc
      · rw [← List.map_append, ← map_imm]
        exact k
    · rw [if_neg hc] at e; cases e) fun c z M' H' g => z M' H' (g1.trans g))) fun _ z => z)⟩
theorem dd_catT {ei : β → D} {ma mb : R (List β)} (ha : DD X W Γ a (fun xs => .tup (xs.map ei)) ma) (hb : DD X W Γ b (fun xs => .tup (xs.map ei)) mb) :
    DD X W Γ (.BinOp a .Add b pos) (fun xs => .tup (xs.map ei)) (ma >>= fun xs => mb >>= fun ys => ofO (catO xs ys)) :=
  dmk ⟨_, pe_op op_catA (pe_w X a) (pe_w X b), fun F M0 M H σ Q s po => ha F M0 M H σ _ s (po.bind.imp (fun xs _ k v M1 H1 g1 r1 => hb F M0 M1 H1 σ _ (s.grow g1) (k.bind.imp (fun ys _ k w M2 H2 g2 r2 => by
    obtain ⟨p, vs, rfl, hl, r1⟩ := r1
    obtain ⟨q, ws, rfl, hl2, r2⟩ := r2
    obtain ⟨z, e, k⟩ := k.ofO
    unfold catO at e
    by_cases hc : xs.length + ys.length ≤ 16777216
    · rw [if_pos hc] at e
      cases e
      have r1' := Reps.mono g2.mm _ _ r1
      have k : WD X.G M H (.tup (xs.map ei ++ ys.map ei)) Q := by rw [← List.map_append]; exact k
      have z1 := r1.len
      have z2 := r2.len
      refine ⟨p, q, vs, ws, rfl, rfl, same_sqt (g1.mh.trans g2.hh) hl, same_sqt g2.mh hl2, ?_, fun e => ?_, fun e => ?_, fun _ _ => new_tup (g1.trans g2) (r1'.app r2) k⟩
      · rw [z1, z2, List.length_map, List.length_map, sizeLine_eq]; exact hc
      · subst e
        have e0 : xs.map ei = [] := List.eq_nil_of_length_eq_zero z1.symm
        rw [e0, List.nil_append] at k
        exact k (.ref q) M2 H2 (g1.trans g2) ⟨q, ws, rfl, hl2, r2⟩
      · intro e
        subst e
        have e0 : ys.map ei = [] := List.eq_nil_of_length_eq_zero z2.symm
        rw [e0, List.append_nil] at k
        exact k (.ref p) M2 H2 (g1.trans g2) ⟨p, vs, rfl, same_sqt g2.mm hl, r1'⟩
    · rw [if_neg hc] at e; cases e) fun c z M' H' g => z M' H' (g1.trans g))) fun _ z => z)⟩
theorem reps_rep {G : Ctx} {M : Hp} {ds : List D} {vs : List V} (r : Reps G M ds vs) : ∀ n, Reps G M (List.replicate n ds).flatten (List.replicate n vs).flatten
  | 0 => rfl
  | n + 1 => by
    rw [List.replicate_succ, List.replicate_succ, List.flatten_cons, List.flatten_cons]
    exact r.app (reps_rep r n)
theorem df_rep {ei : β → D} {ma : R (List β)} {mb : R Int} (ha : DLt X W Γ a (fun xs => xs.map ei) ma) (hb : DD X W Γ b D.int mb) :
    DF X W Γ (.BinOp a .Mult b pos) (fun xs => .lst (xs.map fun x => .imm (ei x))) (ma >>= fun xs => mb >>= fun k => ofO (repO xs k)) :=
  dmk ⟨_, pe_op op_rep (pe_w X a) (pe_w X b), fun F M0 M H σ Q s po => ha F M0 M H σ _ s (po.bind.imp (fun xs _ k p vs M1 H1 g1 hl r1 => hb F M0 M1 H1 σ _ (s.grow g1) (k.bind.imp (fun i _ k w M2 H2 g2 r2 => by
    obtain ⟨z, e, k⟩ := k.ofO
    unfold repO at e
    by_cases hc : -(2 ^ 63) ≤ i ∧ i < 2 ^ 63 ∧ xs.length * i.toNat ≤ 16777216
    · rw [if_pos hc] at e
      cases e
      refine ⟨p, i, vs, rfl, r2, g2.hh _ _ hl, hc.1, hc.2.1, ?_, new_list (g1.trans g2) (reps_rep (Reps.mono g2.mm _ _ r1) i.toNat) ?_⟩
      · rw [r1.len, List.length_map, sizeLine_eq]; exact hc.2.2
      · have e : (List.replicate i.toNat (xs.map ei)).flatten = (List.replicate i.toNat xs).flatten.map ei := by rw [List.map_flatten, List.map_replicate]
        rw [e, ← map_imm]
        exact k
    · rw [if_neg hc] at e; cases e) fun c z M' H' g => z M' H' (g1.trans g))) fun _ z => z)⟩
/-! ### list(..), tuple(..), sum(..), sorted(..) -/
theorem df_listL {ei : β → D} {m : R (List β)} {p : Pos} (h : DL X W Γ e (fun xs => xs.map ei) m) (hm : X.mg "list" = none) (hg : Gl X "list" := by rfl) (hs : starEach [e] X.env = (false, eval e X.env) :: starEach [] X.env := by exact star_cons rfl) : DF X W Γ (.Call (.Name "list" p) [e] [] pos) (fun xs => .lst (xs.map fun x => .imm (ei x))) m :=
  dmk ⟨_, pe_callTy call_list_of hg hm (by decide +kernel) (pa_cons (pe_w X e) pa_nil (hs := hs)) (he := hs), fun F M0 M H σ Q s po => h F M0 M H σ _ s (po.imp (fun xs _ k a vs M1 H1 g1 hl r1 => ⟨a, vs, rfl, .inl hl, new_list g1 r1 (by rw [← map_imm]; exact k)⟩) fun _ z => z)⟩
theorem df_listT {ei : β → D} {m : R (List β)} {p : Pos} (h : DD X W Γ e (fun xs => .tup (xs.map ei)) m) (hm : X.mg "list" = none) (hg : Gl X "list" := by rfl) (hs : starEach [e] X.env = (false, eval e X.env) :: starEach [] X.env := by exact star_cons rfl) : DF X W Γ (.Call (.Name "list" p) [e] [] pos) (fun xs => .lst (xs.map fun x => .imm (ei x))) m :=
  dmk ⟨_, pe_callTy call_list_of hg hm (by decide +kernel) (pa_cons (pe_w X e) pa_nil (hs := hs)) (he := hs), fun F M0 M H σ Q s po => h F M0 M H σ _ s (po.imp (fun xs _ k v M1 H1 g1 r1 => by
    obtain ⟨a, vs, rfl, hl, r1⟩ := r1
    exact ⟨a, vs, rfl, .inr (same_sqt g1.mh hl), new_list g1 r1 (by rw [← map_imm]; exact k)⟩) fun _ z => z)⟩
theorem dd_tupleL {ei : β → D} {m : R (List β)} {p : Pos} (h : DL X W Γ e (fun xs => xs.map ei) m) (hm : X.mg "tuple" = none) (hg : Gl X "tuple" := by rfl) (hs : starEach [e] X.env = (false, eval e X.env) :: starEach [] X.env := by exact star_cons rfl) : DD X W Γ (.Call (.Name "tuple" p) [e] [] pos) (fun xs => .tup (xs.map ei)) m :=
  dmk ⟨_, pe_callTy call_tuple_of hg hm (by decide +kernel) (pa_cons (pe_w X e) pa_nil (hs := hs)) (he := hs), fun F M0 M H σ Q s po => h F M0 M H σ _ s (po.imp (fun xs _ k a vs M1 H1 g1 hl r1 => ⟨a, vs, rfl, .inl ⟨hl, new_tup g1 r1 k⟩⟩) fun _ z => z)⟩
theorem dd_tupleT {ei : β → D} {m : R (List β)} {p : Pos} (h : DD X W Γ e (fun xs => .tup (xs.map ei)) m) (hm : X.mg "tuple" = none) (hg : Gl X "tuple" := by rfl) (hs : starEach [e] X.env = (false, eval e X.env) :: starEach [] X.env := by exact star_cons rfl) : DD X W Γ (.Call (.Name "tuple" p) [e] [] pos) (fun xs => .tup (xs.map ei)) m :=
  dmk ⟨_, pe_callTy call_tuple_of hg hm (by decide +kernel) (pa_cons (pe_w X e) pa_nil (hs := hs)) (he := hs), fun F M0 M H σ Q s po => h F M0 M H σ _ s (po.imp (fun xs _ k v M1 H1 g1 r1 => by
    obtain ⟨a, vs, rfl, hl, r1⟩ := r1
    exact ⟨a, vs, rfl, .inr ⟨same_sqt g1.mh hl, k (.ref a) M1 H1 g1 ⟨a, vs, rfl, hl, r1⟩⟩⟩) fun _ z => z)⟩
theorem reps_ints {G : Ctx} {M : Hp} : ∀ {ns : List Int} {vs : List V}, Reps G M (ns.map D.int) vs → vs = ns.map V.int
  | [], vs, h => h
  | n :: ns, vs, ⟨v, r, h1, h2, h3⟩ => by
    rw [h1, show v = .int n from h2, reps_ints (ns := ns) h3]; rfl
theorem ints_reps {G : Ctx} {M : Hp} : ∀ (ns : List Int), Reps G M (ns.map D.int) (ns.map V.int)
  | [] => rfl
  | n :: ns => ⟨.int n, ns.map V.int, rfl, rfl, ints_reps ns⟩
theorem reps_bls {G : Ctx} {M : Hp} : ∀ {ns : List Bool} {vs : List V}, Reps G M (ns.map D.bl) vs → vs = ns.map V.bl
  | [], vs, h => h
  | n :: ns, vs, ⟨v, r, h1, h2, h3⟩ => by
    rw [h1, show v = .bl n from h2, reps_bls (ns := ns) h3]; rfl
theorem dd_sum {m : R (List Int)} {p : Pos} (hc : X.calm = true) (h : DL X W Γ e (fun xs => xs.map D.int) m) (hm : X.mg "sum" = none) (hg : Gl X "sum" := by rfl) (hs : starEach [e] X.env = (false, eval e X.env) :: starEach [] X.env := by exact star_cons rfl) : DD X W Γ (.Call (.Name "sum" p) [e] [] pos) D.int (m >>= fun xs => .ok xs.sum) :=
  dmk ⟨_, pe_callB (cr_sum hc) hg hm (by decide +kernel) (pa_cons (pe_w X e) pa_nil (hs := hs)) (he := hs), fun F M0 M H σ Q s po => h F M0 M H σ _ s (po.bind.imp (fun xs _ k a vs M1 H1 g1 hl r1 => ⟨a, xs, rfl, by rw [← reps_ints r1]; exact hl, k _ M1 H1 g1 rfl⟩) fun _ z => z)⟩
theorem dd_all {m : R (List Bool)} {p : Pos} (hc : X.calm = true) (h : DL X W Γ e (fun xs => xs.map D.bl) m) (hm : X.mg "all" = none) (hg : Gl X "all" := by rfl) (hs : starEach [e] X.env = (false, eval e X.env) :: starEach [] X.env := by exact star_cons rfl) : DD X W Γ (.Call (.Name "all" p) [e] [] pos) D.bl (m >>= fun xs => .ok (xs.all id)) :=
  dmk ⟨_, pe_callB (cr_all hc) hg hm (by decide +kernel) (pa_cons (pe_w X e) pa_nil (hs := hs)) (he := hs), fun F M0 M H σ Q s po => h F M0 M H σ _ s (po.bind.imp (fun xs _ k a vs M1 H1 g1 hl r1 => ⟨a, xs, rfl, by rw [← reps_bls r1]; exact hl, k _ M1 H1 g1 rfl⟩) fun _ z => z)⟩
theorem dd_any {m : R (List Bool)} {p : Pos} (hc : X.calm = true) (h : DL X W Γ e (fun xs => xs.map D.bl) m) (hm : X.mg "any" = none) (hg : Gl X "any" := by rfl) (hs : starEach [e] X.env = (false, eval e X.env) :: starEach [] X.env := by exact star_cons rfl) : DD X W Γ (.Call (.Name "any" p) [e] [] pos) D.bl (m >>= fun xs => .ok (xs.any id)) :=
  dmk ⟨_, pe_callB (cr_any hc) hg hm (by decide +kernel) (pa_cons (pe_w X e) pa_nil (hs := hs)) (he := hs), fun F M0 M H σ Q s po => h F M0 M H σ _ s (po.bind.imp (fun xs _ k a vs M1 H1 g1 hl r1 => ⟨a, xs, rfl, by rw [← reps_bls r1]; exact hl, k _ M1 H1 g1 rfl⟩) fun _ z => z)⟩
/-- int(n), n an int -/
theorem dd_intI {m : R Int} {p : Pos} (h : DD X W Γ e D.int m) (hm : X.mg "int" = none) (hg : Gl X "int" := by rfl) (hs : starEach [e] X.env = (false, eval e X.env) :: starEach [] X.env := by exact star_cons rfl) : DD X W Γ (.Call (.Name "int" p) [e] [] pos) D.int m :=
  dmk ⟨_, pe_callTy call_int1 hg hm (by decide +kernel) (pa_cons (pe_w X e) pa_nil (hs := hs)) (he := hs), fun F M0 M H σ Q s po => h F M0 M H σ _ s (po.imp (fun i _ k v M1 H1 g1 r1 => .inl ⟨i, by rw [show v = .int i from r1], k _ M1 H1 g1 rfl⟩) fun _ z => z)⟩
theorem dd_absI {m : R Int} {p : Pos} (h : DD X W Γ e D.int m) (hm : X.mg "abs" = none) (hg : Gl X "abs" := by rfl) (hs : starEach [e] X.env = (false, eval e X.env) :: starEach [] X.env := by exact star_cons rfl) : DD X W Γ (.Call (.Name "abs" p) [e] [] pos) D.int (m >>= fun i => .ok (if i < 0 then -i else i)) :=
  dmk ⟨_, pe_callB call_abs hg hm (by decide +kernel) (pa_cons (pe_w X e) pa_nil (hs := hs)) (he := hs), fun F M0 M H σ Q s po => h F M0 M H σ _ s (po.bind.imp (fun i _ k v M1 H1 g1 r1 => ⟨i, by rw [show v = .int i from r1], k _ M1 H1 g1 rfl⟩) fun _ z => z)⟩
theorem dd_two_ints {ma mb : R Int} {n : Str} {id : String} {p : Pos} {f : Int → Int → Int} (hr : CallR X (.builtin id) (fun xs H Q => ∃ i j, xs = [.int i, .int j] ∧ Q (.int (f i j)) H)) (ha : DD X W Γ a D.int ma) (hb : DD X W Γ b D.int mb) (hm : X.mg n = none) (hv : bootBuiltins n = some (.builtin id)) (hg : Gl X n := by rfl) (hn : n ≠ "__name__" := by decide) (hdb : (n == ("__debug__" : Str)) = false := by decide)
    (hs : starEach [a, b] X.env = (false, eval a X.env) :: starEach [b] X.env := by exact star_cons rfl) (hs2 : starEach [b] X.env = (false, eval b X.env) :: starEach [] X.env := by exact star_cons rfl) (hpl : (backTo pos (starEach [b] X.env)).any (·.1) = false := by exact star_none rfl) : DD X W Γ (.Call (.Name n p) [a, b] [] pos) D.int (ma >>= fun x => mb >>= fun y => .ok (f x y)) := by
  refine dmk ⟨_, pe_callB hr hg hm hv (pa_cons (pe_w X a) (pa_cons (pe_w X b) pa_nil (hs := hs2)) (hs := hs)) (hn := hn) (hdb := hdb) (he := hs) (hpl := hpl), fun F M0 M H σ Q s po => ha F M0 M H σ _ s (po.bind.imp (fun x _ k v M1 H1 g1 r1 => hb F M0 M1 H1 σ _ (s.grow g1) (k.bind.imp (fun y _ k w M2 H2 g2 r2 => ⟨x, y, by rw [show v = .int x from r1, show w = .int y from r2], k _ M2 H2 (g1.trans g2) rfl⟩) fun c z M' H' g => z M' H' (g1.trans g))) fun _ z => z)⟩
end
end Cn
/-! Cn6: one's own lists; targets; comprehensions -/
namespace Cn
open PySem PySem.Spec L2
section
variable {G : Ctx} {F M0 M M' H H' : Hp} {σ : St} {Γ : List Sl}
/-- a list of data, changed -/
theorem S.lset {i : Nat} {ds : List D} (s : S G F M0 M H σ Γ) (h : Γ[i]? = some (.ow (.lst (ds.map .imm)))) :
    ∃ a vs, σ[i]? = some (some (.ref a)) ∧ H a = some (.lst vs) ∧ Reps G M ds vs ∧
      ∀ M' H' vs' ds', Gr M H M' H' → Reps G M' ds' vs' → S G F M0 M' (upd H' a (.lst vs')) σ (Γ.set i (.ow (.lst (ds'.map .imm)))) := by
  obtain ⟨a, vs, h1, h2, h3, ⟨as, h4⟩, h5⟩ := s.listed (ts' := []) h
  obtain ⟨a', vs', h1', h2', _, _, _⟩ := s.listed (ts' := []) h
  refine ⟨a, vs, h1, h2, (Owns.of_imm h4).1, fun M' H' vs' ds' g r => ?_⟩
  obtain ⟨b, ws, e1, e2, _, _, k⟩ := s.listed (ts' := ds'.map .imm) h
  rw [h1] at e1
  cases e1
  exact k M' H' vs' [] g (fun as K' _ o _ _ => ⟨[], Owns.imm r, by simp⟩) List.nodup_nil (fun _ z => nomatch z)
/-- what was one's own is shared from now on -/
theorem S.freeze {i : Nat} {t : T} (s : S G F M0 M H σ Γ) (h : Γ[i]? = some (.ow t)) : ∃ M', S G F M0 M' H σ (Γ.set i (.ow (.imm (fz t)))) := by
  obtain ⟨as, f, sa⟩ := s
  obtain ⟨v, l, a, r, q1, q2, q3, q4⟩ := Sat.focus sa h
  subst q2
  have th := Own.there t v a q3
  have nd := f.nd
  rw [List.append_assoc, List.nodup_append] at nd
  have nd2 := nd.2.1
  rw [List.nodup_append] at nd2
  have dj : ∀ b ∈ l ++ r, b ∉ a := fun b hb ha => by
    rcases List.mem_append.mp hb with z | z
    · exact nd.2.2 b z b (List.mem_append_left _ ha) rfl
    · exact nd2.2.2 b ha b z rfl
  obtain ⟨M', hM⟩ : ∃ M' : Hp, M' = fun b => if b ∈ a then H b else M b := ⟨_, rfl⟩
  have m1 : ∀ b ∈ a, M' b = H b := fun b hb => by rw [hM]; show (if b ∈ a then H b else M b) = H b; rw [if_pos hb]
  have m2 : ∀ b, b ∉ a → M' b = M b := fun b hb => by rw [hM]; show (if b ∈ a then H b else M b) = M b; rw [if_neg hb]
  have ma : ∀ b ∈ a, M b = none := fun b hb => f.ma b (by simp [hb])
  have mm : Same M M' := fun b o e => by
    by_cases hb : b ∈ a
    · rw [ma b hb] at e; cases e
    · rw [m2 b hb]; exact e
  have mh : Same M' H := fun b o e => by
    by_cases hb : b ∈ a
    · rw [m1 b hb] at e; exact e
    · rw [m2 b hb] at e; exact f.mh b o e
  refine ⟨M', l ++ [] ++ r, ⟨f.fh, f.mm.trans mm, mh, fun b z => ?_, ?_, fun b hb => f.fa b ?_, fun b hb => ?_⟩, q4 M' H _ [] mm (fun b _ o e => e) ⟨rfl, Own.freeze mm t v a (fun b hb o e => by rw [m1 b hb]; exact e) q3⟩⟩
  · by_cases hb : b ∈ a
    · exact .inr (f.fa b (by simp [hb]))
    · rw [m2 b hb] at z; exact f.nw b z
  · rw [List.append_nil, List.nodup_append]
    exact ⟨nd.1, nd2.2.1, fun x hx y hy e => nd.2.2 x hx y (List.mem_append_right _ hy) e⟩
  · rw [List.append_nil] at hb
    rcases List.mem_append.mp hb with z | z <;> simp [z]
  · rw [List.append_nil] at hb
    rw [m2 b (dj b hb)]
    exact f.ma b (by rcases List.mem_append.mp hb with z | z <;> simp [z])
end
section
variable {X : Cx} {W : WX} {Γe Γ : List Sl} {a b e c tg elt iter : Expr} {es : List Expr} {α β γ ω ω1 : Type} {pos : Pos} {s : Stmt} {rest ss A B : List Stmt}
theorem bk_freeze {κ : ω → Kd} {m : R ω} {t : T} {d : D} (i : Nat) (h : Γ[i]? = some (.ow t)) (hd : fz t = d) (hb : Bk X W Γe (Γ.set i (.ow (.imm d))) ss κ m) : Bk X W Γe Γ ss κ m := ⟨fun F M0 M H σ D s po => by
  subst hd
  obtain ⟨M', s'⟩ := s.freeze h
  exact hb F M0 M' H σ D s' po⟩
theorem bk_freezeL {κ : ω → Kd} {m : R ω} {ei : β → D} {xs : List β} (i : Nat) (h : Γ[i]? = some (.ow (.lst (xs.map fun x => .imm (ei x))))) (hb : Bk X W Γe (Γ.set i (.ow (.imm (.lst (xs.map ei))))) ss κ m) : Bk X W Γe Γ ss κ m := bk_freeze i h (fz_list xs) hb
/-! ### a list of one's own is changed -/
def appO {α : Type} (xs : List α) (x : α) : Option (List α) := if xs.length < 16777216 then some (xs ++ [x]) else none
theorem own_is {ei : β → D} (xs : List β) : T.lst (xs.map fun x => T.imm (ei x)) = T.lst ((xs.map ei).map .imm) := by rw [map_imm]
theorem st_append {ei : β → D} {xs : List β} {m : R β} {n : Str} {p p1 cpos : Pos} (i : Nat) (h : Γ[i]? = some (.ow (.lst (xs.map fun x => .imm (ei x))))) (he : DD X W Γ e ei m) (hw : Wk Γe Γ) (hN : X.N[i]? = some n := by rfl) (hv : Vis X.env.scope n := by first | exact Or.inl rfl | exact Or.inr (Or.inl rfl) | exact Or.inr (Or.inr rfl))
    (hd : (n == ("__debug__" : Str)) = false := by decide) (hcd : (n == ("__classdict__" : Str)) = false := by decide)
    (hbase : attributeBase (.Name n p) "append" X.env (eval (.Name n p) X.env) = eval (.Name n p) X.env := by rfl)
    (hfew : ((backTo cpos (starEach [e] X.env)).all (fun x => !x.1) && (backToKw cpos (keywordEach [] X.env)).all (fun x => x.1.isSome)
      && decide (([e]).length + ([] : List Keyword).length + (if ([] : List Keyword).isEmpty then 0 else 1) < 30)) = true := by rfl)
    (hline : (p1.endLine == cpos.line) = true := by rfl) (hs : starEach [e] X.env = (false, eval e X.env) :: starEach [] X.env := by exact star_cons rfl) (hplain : (backTo cpos (starEach [] X.env)).any (·.1) = false := by rfl)
    (hsw : swapsWith (.Call (.Attribute (.Name n p) "append" p1) [e] [] cpos) none pos.line X.env = pure false := by rfl) :
    St1 X W Γe Γ (.Expr (.Call (.Attribute (.Name n p) "append" p1) [e] [] cpos) pos) (fun xs => .n (Γ.set i (.ow (.lst (xs.map fun x => .imm (ei x)))))) (m >>= fun x => ofO (appO xs x)) :=
  smk ⟨_, ps_expr (pe_bm PySem.F.plainAttrs_list PySem.F.slot_list_append PySem.F.type_list_append mt_append (pe_var hN hv hd hcd) (pa_cons (pe_w X e) pa_nil (hs := hs)) hbase hfew hline hs hplain) hsw, fun F M0 M H σ D st po => by
    rw [own_is] at h
    obtain ⟨a, vs, h1, h2, h3, h4⟩ := st.lset h
    refine ⟨_, h1, .inl ⟨rfl, vs, .of h2⟩, he F M0 M H σ _ st (po.bind.imp (fun x _ k v M1 H1 g1 r1 => ?_) fun c z => er_wk st hw z)⟩
    obtain ⟨z, e, k⟩ := k.ofO
    unfold appO at e
    by_cases hc : xs.length < 16777216
    · rw [if_pos hc] at e
      cases e
      refine ⟨a, vs, v, rfl, rfl, g1.hh _ _ h2, by rw [h3.len, List.length_map, sizeLine_eq]; exact hc, ?_⟩
      refine Kn.nx k _ rfl M1 _ σ ?_
      have q := h4 M1 H1 (vs ++ [v]) ((xs.map ei) ++ [ei x]) g1 ((Reps.mono g1.mm _ _ h3).app ⟨v, [], rfl, r1, rfl⟩)
      rw [own_is, List.map_append (l₁ := xs)]
      exact q
    · rw [if_neg hc] at e; cases e⟩
def extO {α : Type} (xs ys : List α) : Option (List α) := if xs.length + ys.length ≤ 16777216 then some (xs ++ ys) else none
theorem st_extend {ei : β → D} {xs : List β} {m : R (List β)} {n : Str} {p p1 cpos : Pos} (i : Nat) (h : Γ[i]? = some (.ow (.lst (xs.map fun x => .imm (ei x))))) (he : DLt X W Γ e (fun xs => xs.map ei) m) (hw : Wk Γe Γ) (hN : X.N[i]? = some n := by rfl) (hv : Vis X.env.scope n := by first | exact Or.inl rfl | exact Or.inr (Or.inl rfl) | exact Or.inr (Or.inr rfl))
    (hd : (n == ("__debug__" : Str)) = false := by decide) (hcd : (n == ("__classdict__" : Str)) = false := by decide)
    (hbase : attributeBase (.Name n p) "extend" X.env (eval (.Name n p) X.env) = eval (.Name n p) X.env := by rfl)
    (hfew : ((backTo cpos (starEach [e] X.env)).all (fun x => !x.1) && (backToKw cpos (keywordEach [] X.env)).all (fun x => x.1.isSome)
      && decide (([e]).length + ([] : List Keyword).length + (if ([] : List Keyword).isEmpty then 0 else 1) < 30)) = true := by rfl)
    (hline : (p1.endLine == cpos.line) = true := by rfl) (hs : starEach [e] X.env = (false, eval e X.env) :: starEach [] X.env := by exact star_cons rfl) (hplain : (backTo cpos (starEach [] X.env)).any (·.1) = false := by rfl)
    (hsw : swapsWith (.Call (.Attribute (.Name n p) "extend" p1) [e] [] cpos) none pos.line X.env = pure false := by rfl) :
    St1 X W Γe Γ (.Expr (.Call (.Attribute (.Name n p) "extend" p1) [e] [] cpos) pos) (fun xs => .n (Γ.set i (.ow (.lst (xs.map fun x => .imm (ei x)))))) (m >>= fun ys => ofO (extO xs ys)) :=
  smk ⟨_, ps_expr (pe_bm PySem.F.plainAttrs_list PySem.F.slot_list_extend PySem.F.type_list_extend mt_extend (pe_var hN hv hd hcd) (pa_cons (pe_w X e) pa_nil (hs := hs)) hbase hfew hline hs hplain) hsw, fun F M0 M H σ D st po => by
    rw [own_is] at h
    obtain ⟨a, vs, h1, h2, h3, h4⟩ := st.lset h
    refine ⟨_, h1, .inl ⟨rfl, vs, .of h2⟩, he F M0 M H σ _ st (po.bind.imp (fun ys _ k b ws M1 H1 g1 hb r1 => ?_) fun c z => er_wk st hw z)⟩
    obtain ⟨z, e, k⟩ := k.ofO
    unfold extO at e
    by_cases hc : xs.length + ys.length ≤ 16777216
    · rw [if_pos hc] at e
      cases e
      refine ⟨a, b, vs, ws, rfl, rfl, g1.hh _ _ h2, hb, by rw [h3.len, r1.len, List.length_map, List.length_map, sizeLine_eq]; exact hc, ?_⟩
      refine Kn.nx k _ rfl M1 _ σ ?_
      have q := h4 M1 H1 (vs ++ ws) ((xs.map ei) ++ (ys.map ei)) g1 ((Reps.mono g1.mm _ _ h3).app r1)
      rw [own_is, List.map_append (l₁ := xs)]
      exact q
    · rw [if_neg hc] at e; cases e⟩
/-- xs[k] = e -/
def setO {α : Type} (xs : List α) (i : Int) (x : α) : Option (List α) := (ixN xs.length i).map fun j => xs.set j x
theorem Reps.set {G : Ctx} {M : Hp} {v : V} {d : D} (r : Rep G M d v) : ∀ {ds : List D} {vs : List V} (i : Nat), Reps G M ds vs → Reps G M (ds.set i d) (vs.set i v)
  | [], vs, i, h => by rw [show vs = [] from h]; exact rfl
  | x :: ds, vs, 0, ⟨w, q, h1, h2, h3⟩ => by subst h1; exact ⟨v, q, rfl, r, h3⟩
  | x :: ds, vs, i + 1, ⟨w, q, h1, h2, h3⟩ => by subst h1; exact ⟨w, q.set i v, rfl, h2, Reps.set r i h3⟩
theorem st_setix {ei : β → D} {xs : List β} {m : R β} {mi : R Int} {n : Str} {p ps : Pos} (i : Nat) (h : Γ[i]? = some (.ow (.lst (xs.map fun x => .imm (ei x))))) (he : DD X W Γ e ei m) (hi : DD X W Γ b D.int mi) (hw : Wk Γe Γ) (hN : X.N[i]? = some n := by rfl) (hv : Vis X.env.scope n := by first | exact Or.inl rfl | exact Or.inr (Or.inl rfl) | exact Or.inr (Or.inr rfl))
    (hd : (n == ("__debug__" : Str)) = false := by decide) (hcd : (n == ("__classdict__" : Str)) = false := by decide)
    (ha : ∀ v, assign (.Subscript (.Name n p) b ps) X.env v = (do
      let ov ← holding [v] (eval (.Name n p) X.env)
      let iv ← holding [v, ov] (eval b X.env)
      standAt ps
      holding [v, ov, iv] (setItem ov iv v)
      release [v, ov, iv] []) := by intro _; rfl)
    (hs : swapsWithSole [.Subscript (.Name n p) b ps] e pos.line X.env = pure false := by rfl) (hsw : swappedStores [.Subscript (.Name n p) b ps] e X.env = pure none := by rfl)
    (h1 : (assignEach [.Subscript (.Name n p) b ps] X.env).map (·.2) = [assign (.Subscript (.Name n p) b ps) X.env] := by rfl) :
    St1 X W Γe Γ (.Assign [.Subscript (.Name n p) b ps] e pos) (fun xs => .n (Γ.set i (.ow (.lst (xs.map fun x => .imm (ei x)))))) (m >>= fun x => mi >>= fun k => ofO (setO xs k x)) :=
  smk ⟨_, ps_asg (pe_w X e) (pg_sub (pe_var hN hv hd hcd) (pe_w X b) set_list ha) hs hsw h1, fun F M0 M H σ D st po => by
    rw [own_is] at h
    refine he F M0 M H σ _ st (po.bind.imp (fun x _ k v M1 H1 g1 r1 => ?_) fun c z => er_wk st hw z)
    have st1 := st.grow g1
    obtain ⟨a, vs, h1, h2, h3, h4⟩ := st1.lset h
    refine ⟨_, h1, hi F M0 M1 H1 σ _ st1 (k.bind.imp (fun j _ k w M2 H2 g2 r2 => ?_) fun c z => er_wk st1 hw z)⟩
    obtain ⟨z, e, k⟩ := k.ofO
    unfold setO at e
    cases q : ixN xs.length j with
    | none => rw [q] at e; cases e
    | some l =>
      rw [q] at e
      cases e
      refine ⟨a, vs, j, l, rfl, r2, g2.hh _ _ h2, by rw [h3.len, List.length_map]; exact q, ?_⟩
      refine Kn.nx k _ rfl M2 _ σ ?_
      have q := h4 M2 H2 (vs.set l v) ((xs.map ei).set l (ei x)) g2 (Reps.set (Rep.mono g2.mm _ _ r1) l (Reps.mono g2.mm _ _ h3))
      rw [own_is, List.map_set (l := xs)]
      exact q⟩
/-- x op= e, ints -/
def AugI (X : Cx) (op : Operator) (f : Int → Int → Option Int) : Prop := ∃ ti, PIp X op ti ∧ ∀ x y z H Q, f x y = some z → Q (.int z) H → ti (.int x) (.int y) H Q
theorem PIp.of {op : Operator} {r : R2} (h : OpR X (inplaceOp op) r) : PIp X op r := fun pins s σ H x y v u Q I r1 r2 q => h pins s σ H x y v u Q I r1 r2 q
theorem aug_add : AugI X .Add fun x y => some (x + y) := ⟨_, PIp.of iop_add, fun x y z H Q e q => ⟨x, y, rfl, rfl, by cases e; exact q⟩⟩
theorem aug_sub : AugI X .Sub fun x y => some (x - y) := ⟨_, PIp.of iop_sub, fun x y z H Q e q => ⟨x, y, rfl, rfl, by cases e; exact q⟩⟩
theorem aug_xor : AugI X .BitXor fun x y => some (Builtin.bitXor x y) := ⟨_, PIp.of iop_xor, fun x y z H Q e q => ⟨x, y, rfl, rfl, by cases e; exact q⟩⟩
theorem aug_mul : AugI X .Mult mulO := ⟨_, PIp.of iop_mul, fun x y z H Q e q => by
  unfold mulO at e
  by_cases c : CMul x y
  · rw [if_pos c] at e; cases e; exact ⟨x, y, rfl, rfl, c, q⟩
  · rw [if_neg c] at e; cases e⟩
theorem st_aug {op : Operator} {f : Int → Int → Option Int} {m : R Int} {n : Str} {p : Pos} {x : Int} (hf : AugI X op f) (i : Nat) (h : Γ[i]? = some (.ow (.imm (.int x)))) (he : DD X W Γ e D.int m) (hw : Wk Γe Γ) (hN : X.N.Nodup) (hi : X.N[i]? = some n := by rfl) (hl : Nat.blt i Γ.length = true := by rfl) (hx : Loc X.env.scope n := by first | exact Or.inl rfl | exact Or.inr rfl)
    (hfn : X.fn n = true ∨ X.env.scope.names.lookup n = some .local := by first | exact .inl rfl | exact .inr rfl) : St1 X W Γe Γ (.AugAssign (.Name n p) op e pos) (fun x => .n (Γ.set i (.ow (.imm (.int x))))) (m >>= fun y => ofO (f x y)) := by
  obtain ⟨ti, hp, ht⟩ := hf
  refine smk ⟨_, ps_aug hN hi hx (pe_w X e) hp hfn, fun F M0 M H σ D st po => ?_⟩
  obtain ⟨as, fr, sa⟩ := id st
  obtain ⟨v, a, q1, q2, q3⟩ := Sat.get sa h
  refine ⟨v, q1, he F M0 M H σ _ st (po.bind.imp (fun y _ k w M1 H1 g1 r1 => ?_) fun c z => er_wk st hw z)⟩
  rw [show v = .int x from q2.2, show w = .int y from r1]
  obtain ⟨z, e, k⟩ := k.ofO
  refine ht x y z H1 _ e ?_
  exact Kn.nx k _ rfl M1 H1 _ (st.put g1 (show Own X.G M1 H1 (.imm (.int z)) (.int z) [] from ⟨rfl, rfl⟩) List.nodup_nil (fun _ z => nomatch z) (Nat.le_of_ble_eq_true hl))
/-! ### targets that are tuples -/
/-- the items of a tuple, stored one behind the other -/
def DGs (X : Cx) (Γ : List Sl) (tgs : List Expr) (put : List Sl) (ds : List D) : Prop := ∃ g, PGs X tgs g ∧ ∀ F M0 M H σ vs Q, S X.G F M0 M H σ Γ → Reps X.G M ds vs → (∀ M' H' σ', Same M M' → S X.G F M0 M' H' σ' put → Q σ' H') → g vs σ H Q
theorem dgs_nil : DGs X Γ [] Γ [] := ⟨_, pgs_nil, fun F M0 M H σ vs Q s r q => ⟨r, q M H σ (.refl _) s⟩⟩
theorem dgs_cons {tgs : List Expr} {Γ1 put : List Sl} {d : D} {ds : List D} (h : DG X Γ tg Γ1 d) (k : DGs X Γ1 tgs put ds) (hs : (assignEach (tg :: tgs) X.env).map (·.2) = assign tg X.env :: (assignEach tgs X.env).map (·.2) := by rfl) : DGs X Γ (tg :: tgs) put (d :: ds) := by
  obtain ⟨g, pg, hg⟩ := k
  refine ⟨_, pgs_cons (pg_w X tg) pg hs, fun F M0 M H σ vs Q s r q => ?_⟩
  obtain ⟨v, r', rfl, h1, h2⟩ := r
  exact ⟨v, r', rfl, h F M0 M H σ v _ s h1 fun M1 H1 σ1 m1 s1 => hg F M0 M1 H1 σ1 r' Q s1 (Reps.mono m1 _ _ h2) fun M2 H2 σ2 m2 s2 => q M2 H2 σ2 (m1.trans m2) s2⟩
theorem dg_tup {tgs : List Expr} {put : List Sl} {ds : List D} {k : Nat} (hc : X.calm = true) (h : DGs X Γ tgs put ds) (hn : (assignEach tgs X.env).length = ds.length := by rfl) (hst : (assignEach tgs X.env).findIdx? (·.1) = none := by rfl) : DG X Γ (.Tuple tgs k pos) put (.tup ds) := by
  obtain ⟨g, pg, hg⟩ := h
  intro F M0 M H σ v Q s r q pins sh u I rv
  obtain ⟨a, vs, rfl, h1, h2⟩ := r
  exact (pg_tup (pos := pos) (k := k) hc pg hn hst).run pins sh σ H _ u Q I rv ⟨a, vs, rfl, same_sqt s.mh h1, by rw [h2.len], hg F M0 M H σ vs Q s h2 q⟩
theorem dg_unl {tgs : List Expr} {put : List Sl} {ds : List D} {k : Nat} (hc : X.calm = true) (h : DGs X Γ tgs put ds) (hn : (assignEach tgs X.env).length = ds.length := by rfl) (hst : (assignEach tgs X.env).findIdx? (·.1) = none := by rfl) : DG X Γ (.Tuple tgs k pos) put (.lst ds) := by
  obtain ⟨g, pg, hg⟩ := h
  intro F M0 M H σ v Q s r q pins sh u I rv
  obtain ⟨a, vs, rfl, h1, h2⟩ := r
  exact (pg_unl (pos := pos) (k := k) hc pg hn hst).run pins sh σ H _ u Q I rv ⟨a, vs, rfl, .of (s.mh _ _ h1), by rw [h2.len], hg F M0 M H σ vs Q s h2 q⟩
theorem st_asg {emb : α → D} {m : R α} {put : α → List Sl} (he : DD X W Γ e emb m) (hg : ∀ x, DG X Γ tg (put x) (emb x)) (hw : Wk Γe Γ) (hs : swapsWithSole [tg] e pos.line X.env = pure false := by rfl) (hsw : swappedStores [tg] e X.env = pure none := by rfl)
    (h1 : (assignEach [tg] X.env).map (·.2) = [assign tg X.env] := by rfl) : St1 X W Γe Γ (.Assign [tg] e pos) (fun x => .n (put x)) m :=
  smk ⟨_, ps_asg (pe_w X e) (pg_w X tg) hs hsw h1, fun F M0 M H σ D st po => he F M0 M H σ _ st (po.imp (fun x _ k v M1 H1 g1 r1 => hg x F M0 M1 H1 σ v _ (st.grow g1) r1 fun M2 H2 σ2 _ s2 => Kn.nx k _ rfl M2 H2 σ2 s2) fun c z => er_wk st hw z)⟩
/-- .. where the number of items is known by a test alone: a list (or tuple) of any length -/
def itemsN {α : Type} (n : Nat) (xs : List α) : Option (List α) := if xs.length = n then some xs else none
/-! ### comprehensions -/
/-- an exception within a comprehension isn't carried -/
def noErr {α : Type} : R α → R α
  | .err _ => .bad
  | m => m
theorem Po.noErr {α : Type} {m : R α} {Q : α → Prop} {E : Str → Prop} (h : Po (noErr m) Q E) : Po m Q fun _ => False := by
  cases m with
  | bad => exact h
  | err c => exact h
  | ok a => exact h
def lcR {α β : Type} (c : α → R Bool) (f : α → R β) : List α → R (List β)
  | [] => .ok []
  | x :: xs => noErr (c x) >>= fun b => if b then noErr (f x) >>= fun y => lcR c f xs >>= fun ys => .ok (y :: ys) else lcR c f xs
def compR {α β : Type} (c : α → R Bool) (f : α → R β) (xs : List α) : R (List β) := if xs.length ≤ 16777216 then lcR c f xs else .bad
abbrev wNo : WX := fun _ _ _ _ => False
/-- the tests of a comprehension -/
def DTs (X : Cx) (Γ : List Sl) (ifs : List Expr) (m : R Bool) : Prop :=
  ∃ tt, PTs X ifs tt ∧ ∀ F M0 M H σ Q, S X.G F M0 M H σ Γ → Po m (fun x => ∀ M' H', Gr M H M' H' → Q x H') (fun _ => False) → tt σ H Q
theorem dts_nil : DTs X Γ [] (.ok true) := ⟨_, pts_nil, fun F M0 M H σ Q s po => po M H (.refl s.mh)⟩
theorem dts_one {m : R Bool} (h : DT X wNo Γ c m) : DTs X Γ [c] m := ⟨_, pts_one (pt_w X c), fun F M0 M H σ Q s po => h F M0 M H σ Q s (po.imp (fun _ _ k => k) fun _ z => z.elim)⟩
def wTs (X : Cx) (ifs : List Expr) : TT := fun σ H Q => ∀ pins s, Inv X pins σ H s → wpAny (model X.prog X.w) X.A (forIn ifs true fun c r => if r = true then do let ok ← isTrue c X.env (eval c X.env); pure (ForInStep.yield ok) else pure (ForInStep.yield r)) (TP X pins σ Q) X.xe s
/-- the own names forgotten -/
def wipeΓ (Γ : List Sl) : List Nat → List Sl
  | [] => Γ
  | v :: vs => (wipeΓ Γ vs).set v .un
theorem Sat.unset {G : Ctx} {M H : Hp} : ∀ {Γ : List Sl} {σ : St} {as : List Addr} {i : Nat}, Sat G M H Γ σ as → ∃ bs, Sat G M H (Γ.set i .un) (σ.set i none) bs ∧ bs.Sublist as
  | [], σ, as, i, h => ⟨as, by rw [h.1]; exact ⟨rfl, h.2⟩, .refl _⟩
  | .un :: Γ, σ, as, 0, ⟨x, r, h1, h2⟩ => ⟨as, by rw [h1]; exact ⟨none, r, rfl, h2⟩, .refl _⟩
  | .ow t' :: Γ, σ, as, 0, ⟨w, r, a1, a2, h1, h2, h3, h4⟩ => ⟨a2, by rw [h1]; exact ⟨none, r, rfl, h4⟩, by rw [h2]; exact List.sublist_append_right _ _⟩
  | .pn w t' :: Γ, σ, as, 0, ⟨r, a1, a2, h1, h2, h3, h4⟩ => ⟨a2, by rw [h1]; exact ⟨none, r, rfl, h4⟩, by rw [h2]; exact List.sublist_append_right _ _⟩
  | .un :: Γ, σ, as, i + 1, ⟨x, r, h1, h2⟩ => by
    obtain ⟨bs, s, sub⟩ := Sat.unset (i := i) h2
    exact ⟨bs, by rw [h1]; exact ⟨x, _, rfl, s⟩, sub⟩
  | .ow t' :: Γ, σ, as, i + 1, ⟨w, r, a1, a2, h1, h2, h3, h4⟩ => by
    obtain ⟨bs, s, sub⟩ := Sat.unset (i := i) h4
    exact ⟨a1 ++ bs, by rw [h1]; exact ⟨w, _, a1, bs, rfl, rfl, h3, s⟩, by rw [h2]; exact List.Sublist.append_left sub a1⟩
  | .pn w t' :: Γ, σ, as, i + 1, ⟨r, a1, a2, h1, h2, h3, h4⟩ => by
    obtain ⟨bs, s, sub⟩ := Sat.unset (i := i) h4
    exact ⟨a1 ++ bs, by rw [h1]; exact ⟨_, a1, bs, rfl, rfl, h3, s⟩, by rw [h2]; exact List.Sublist.append_left sub a1⟩
theorem S.wipe {G : Ctx} {F M0 M H : Hp} {σ : St} {Γ : List Sl} (s : S G F M0 M H σ Γ) : ∀ vs, S G F M0 M H (wipe σ vs) (wipeΓ Γ vs)
  | [] => s
  | v :: vs => by
    obtain ⟨as, f, sa⟩ := S.wipe s vs
    obtain ⟨bs, sb, sub⟩ := Sat.unset (i := v) sa
    exact ⟨bs, f.sub sub, sb⟩
/-- the new list at L is filled: what stood around it -/
theorem gr_list {M1 H1 M H : Hp} {L : Addr} {vs : List V} (g : Gr M1 H1 M H) (h0 : H1 L = none) (hm : M L = none) : Gr M1 H1 M (upd H L (.lst vs)) :=
  ⟨fun b o e => by rw [upd_ne (ne_of_none e h0)]; exact g.hh b o e, g.mm, fun b o e => by rw [upd_ne (ne_of_none e hm)]; exact g.mh b o e, g.nw⟩
theorem gr_keepNone {M H M' H' : Hp} (g : Gr M H M' H') {L : Addr} (hm : M L = none) (hh : H L ≠ none) : M' L = none := by
  cases e : M' L with
  | none => rfl
  | some o =>
    rcases g.nw L (by rw [e]; exact fun z => nomatch z) with q | q
    · exact absurd hm q
    · exact absurd q hh
/-- the context of a comprehension's block -/
abbrev blkX (X : Cx) (scope : Scope) (s : Shared) (H : Hp) (C : Addr) (cl : List (Str × Addr)) (fp : List Addr) : Cx := X.blk s H scope (compEnvC scope cl C X.env) fp
/-- the reading of a comprehension, from its parts' -/
theorem lc_reads {G : Ctx} {own : List (Str × Nat)} {et : β → T} {ei : α → D} {cf : α → R Bool} {f : α → R β} {wi : TI} {g : TG} {tt : TT} {te : TE} {mi : R (List α)} {put : α → List Sl} {F M0 M H : Hp} {σ : St} {Q : VK} {E : Str → Prop}
    (st : S G F M0 M H σ Γ)
    (hi : ∀ R : It → Hp → Prop, Po mi (fun xs => ∀ J M' H', Gr M H M' H' → ItD G J (xs.map ei) M' → R J H') E → wi σ H R)
    (hg : ∀ x F M0 M H σ' v (Q : St → Hp → Prop), S G F M0 M H σ' (wipeΓ Γ (own.map (·.2))) → σ' = wipe σ (own.map (·.2)) → Rep G M (ei x) v → (∀ M' H' σ2, Gr M H M' H' → S G F M0 M' H' σ2 (put x) → wipe σ2 (own.map (·.2)) = σ' → Q σ2 H') → g v σ' H Q)
    (ht : ∀ x F M0 M H σ' Q, S G F M0 M H σ' (put x) → Po (cf x) (fun b => ∀ M' H', Gr M H M' H' → Q b H') (fun _ => False) → tt σ' H Q)
    (he : ∀ x F M0 M H σ' Q, S G F M0 M H σ' (put x) → Po (f x) (fun y => WF G M H (et y) Q) (fun _ => False) → te σ' H Q)
    (po : Po (mi >>= fun xs => compR cf f xs) (fun ys => WF G M H (.lst (ys.map et)) Q) E) : tLc wi g tt te (own.map (·.2)) σ H Q := by
  refine hi _ (po.bind.imp (fun xs _ k J M1 H1 g1 it => ?_) fun c z => z)
  have k : Po (if xs.length ≤ 16777216 then lcR cf f xs else .bad) _ E := k
  by_cases hz : xs.length ≤ 16777216
  case neg => rw [if_neg hz] at k; exact k.elim
  rw [if_pos hz] at k
  intro L hL
  have hML : M1 L = none := by
    cases e : M1 L with
    | none => rfl
    | some o => rw [g1.mh L o e] at hL; cases hL
  have hHL : H L = none := g1.hh.free hL
  refine ⟨fun i m H2 => m = xs.length - i ∧ i ≤ xs.length ∧ ∃ M2 ys acc as, Gr M1 H1 M2 H2 ∧ M2 L = none ∧ H2 L = some (.lst acc) ∧ acc.length ≤ i ∧ Owns G M2 H2 (ys.map et) acc as ∧ as.Nodup ∧ (∀ a ∈ as, H1 a = none ∧ M2 a = none ∧ a ≠ L) ∧
      Po (lcR cf f (xs.drop i)) (fun zs => WF G M H (.lst ((ys ++ zs).map et)) Q) E, ⟨xs.length, by simp, Nat.zero_le _, M1, [], [], [], gr_list (.refl g1.mh) hL hML, hML, upd_same, Nat.le_refl _, (show Owns G M1 _ (([] : List β).map et) [] [] from ⟨rfl, rfl⟩), List.nodup_nil, (fun _ z => nomatch z), k⟩, ?_⟩
  rintro i m H2 ⟨rfl, hi2, M2, ys, acc, as, g2, hM2, hH2, hl, ow, nd, fr, k⟩
  obtain ⟨i1, i2⟩ := it M2 H2 i g2.mm g2.mh
  by_cases hlt : i < xs.length
  · have ex : xs[i]? = some xs[i] := List.getElem?_eq_getElem hlt
    obtain ⟨go, yl⟩ := i1 (ei xs[i]) (by rw [List.getElem?_map, ex]; rfl)
    rw [List.drop_eq_getElem_cons hlt] at k
    have k := (Po.bind (m := noErr (cf xs[i])) k)
    refine .inr ⟨go, fun H' => ∃ M3 ys acc as, Gr M1 H1 M3 H' ∧ M3 L = none ∧ H' L = some (.lst acc) ∧ acc.length ≤ i + 1 ∧ Owns G M3 H' (ys.map et) acc as ∧ as.Nodup ∧ (∀ a ∈ as, H1 a = none ∧ M3 a = none ∧ a ≠ L) ∧
      Po (lcR cf f (xs.drop (i + 1))) (fun zs => WF G M H (.lst ((ys ++ zs).map et)) Q) E, fun H' q => ⟨xs.length - (i + 1), by omega, rfl, hlt, q⟩, fun x H' y => ?_⟩
    obtain ⟨M3, g3, r3⟩ := yl x H' y
    have g13 := g2.trans g3
    have st3 := ((st.grow g1).grow g13).wipe (own.map (·.2))
    refine hg xs[i] F M0 M3 H' _ x _ st3 rfl r3 fun M4 H4 σ4 g4 s4 ew => ⟨ew, ?_⟩
    refine ht xs[i] F M0 M4 H4 σ4 _ s4 (k.noErr.imp (fun b _ k M5 H5 g5 => ?_) fun _ z => z)
    have g25 := (g3.trans g4).trans g5
    have hH5 : H5 L = some (.lst acc) := g25.hh _ _ hH2
    have hM5 : M5 L = none := gr_keepNone g25 hM2 (by rw [hH2]; exact fun z => nomatch z)
    have ow5 := Owns.keep g25.mm _ _ _ (fun a _ o e => g25.hh a o e) ow
    have fr5 : ∀ a ∈ as, H1 a = none ∧ M5 a = none ∧ a ≠ L := fun a ha => ⟨(fr a ha).1, gr_keepNone g25 (fr a ha).2.1 (Owns.there _ _ _ ow a ha), (fr a ha).2.2⟩
    cases b with
    | false =>
      rw [if_neg Bool.false_ne_true] at k
      exact ⟨M5, ys, acc, as, g2.trans g25, hM5, hH5, by omega, ow5, nd, fr5, k⟩
    | true =>
      rw [if_pos rfl] at k
      have k := (Po.bind (m := noErr (f xs[i])) k)
      rw [if_pos rfl]
      refine he xs[i] F M0 M5 H5 σ4 _ (s4.grow g5) (k.noErr.imp (fun y _ k v M6 H6 bs g6 o6 nd6 fr6 => ?_) fun _ z => z)
      have hH6 : H6 L = some (.lst acc) := g6.hh _ _ hH5
      have hM6 : M6 L = none := gr_keepNone g6 hM5 (by rw [hH5]; exact fun z => nomatch z)
      have bL : ∀ a ∈ bs, a ≠ L := fun a ha z => by
        have := (fr6 a ha).1
        rw [z, hH5] at this; cases this
      refine ⟨acc, hH6, Nat.lt_of_lt_of_le (Nat.lt_of_le_of_lt hl hlt) (by rw [sizeLine_eq]; exact hz), M6, ys ++ [y], acc ++ [v], as ++ bs, gr_list ((g2.trans g25).trans g6) hL hM6, hM6, upd_same, by rw [List.length_append, List.length_singleton]; omega, ?_, ?_, fun a ha => ?_, ?_⟩
      · rw [List.map_append]
        refine Owns.app (Owns.keep g6.mm _ _ _ (fun a ha o e => by rw [upd_ne (fr5 a ha).2.2]; exact g6.hh a o e) ow5) ?_
        exact ⟨v, [], bs, [], rfl, by simp, Own.keep (.refl _) _ _ _ (fun a ha o e => by rw [upd_ne (bL a ha)]; exact e) o6, ⟨rfl, rfl⟩⟩
      · rw [List.nodup_append]
        refine ⟨nd, nd6, fun a ha b hb e => ?_⟩
        subst e
        exact Owns.there _ _ _ ow5 a ha (fr6 a hb).1
      · rcases List.mem_append.mp ha with z | z
        · exact ⟨(fr5 a z).1, gr_keepNone g6 (fr5 a z).2.1 (Owns.there _ _ _ ow5 a z), (fr5 a z).2.2⟩
        · exact ⟨(g2.trans g25).hh.free (fr6 a z).1, (fr6 a z).2, bL a z⟩
      · refine k.bind.imp (fun zs _ k => ?_) fun _ z => z
        have k : WF G M H (.lst ((ys ++ (y :: zs)).map et)) Q := k
        rw [List.append_assoc]
        exact k
  · have e : xs.drop i = [] := List.drop_eq_nil_of_le (by omega)
    rw [e] at k
    have k : WF G M H (.lst ((ys ++ []).map et)) Q := k
    rw [List.append_nil] at k
    refine .inl ⟨i2 (by rw [List.length_map]; omega), k (.ref L) M2 H2 (L :: as) (g1.trans g2) ⟨L, acc, as, rfl, rfl, hH2, ow⟩ ?_ fun a ha => ?_⟩
    · rw [List.nodup_cons]
      exact ⟨fun z => (fr L z).2.2 rfl, nd⟩
    · rcases List.mem_cons.mp ha with z | z
      · rw [z]; exact ⟨hHL, hM2⟩
      · exact ⟨g1.hh.free (fr a z).1, (fr a z).2.1⟩
/-- a target of names alone -/
def DGc (X : Cx) (vs : List Nat) (Γ : List Sl) (tg : Expr) (put : List Sl) (d : D) : Prop := ∀ F M0 M H σ v Q, S X.G F M0 M H σ Γ → Rep X.G M d v → (∀ σ', S X.G F M0 M H σ' put → wipe σ' vs = wipe σ vs → Q σ' H) → wG X tg v σ H Q
theorem wipe_set {x : Option V} {i : Nat} : ∀ {vs : List Nat} {σ : St}, i ∈ vs → wipe (σ.set i x) vs = wipe σ vs
  | [], σ, h => nomatch h
  | v :: vs, σ, h => by
    show (wipe (σ.set i x) vs).set v none = (wipe σ vs).set v none
    by_cases hv : i ∈ vs
    · rw [wipe_set hv]
    · have e : i = v := by
        rcases List.mem_cons.mp h with z | z
        · exact z
        · exact absurd z hv
      subst e
      have key : ∀ (vs : List Nat) (σ : St), i ∉ vs → wipe (σ.set i x) vs = (wipe σ vs).set i x := by
        intro vs
        induction vs with
        | nil => intro σ _; rfl
        | cons w ws ih =>
          intro σ hw
          show (wipe (σ.set i x) ws).set w none = ((wipe σ ws).set w none).set i x
          rw [ih σ (fun z => hw (List.mem_cons_of_mem _ z)), List.set_comm _ _ (fun z => hw (by rw [z]; exact List.mem_cons_self))]
      rw [key vs σ hv, List.set_set]
theorem wipe_idem {σ : St} : ∀ {vs : List Nat}, wipe (wipe σ vs) vs = wipe σ vs
  | [] => rfl
  | v :: vs => by
    show (wipe ((wipe σ vs).set v none) vs).set v none = (wipe σ vs).set v none
    by_cases hv : v ∈ vs
    · rw [wipe_set hv, wipe_idem]
    · have key : ∀ (vs : List Nat) (σ : St), v ∉ vs → wipe (σ.set v none) vs = (wipe σ vs).set v none := by
        intro vs
        induction vs with
        | nil => intro σ _; rfl
        | cons w ws ih =>
          intro σ hw
          show (wipe (σ.set v none) ws).set w none = ((wipe σ ws).set w none).set v none
          rw [ih σ (fun z => hw (List.mem_cons_of_mem _ z)), List.set_comm _ _ (fun z => hw (by rw [z]; exact List.mem_cons_self))]
      rw [key vs _ hv, List.set_set, wipe_idem]
theorem dgc_name {n : Str} {d : D} {vs : List Nat} (i : Nat) (hN : X.N.Nodup) (hi : X.N[i]? = some n := by rfl) (hl : Nat.blt i Γ.length = true := by rfl) (hx : Loc X.env.scope n := by first | exact Or.inl rfl | exact Or.inr rfl) (hf : X.fn n = true ∨ X.env.scope.names.lookup n = some .local := by first | exact .inl rfl | exact .inr rfl) (hv : i ∈ vs := by decide) :
    DGc X vs Γ (.Name n pos) (Γ.set i (.ow (.imm d))) d := fun F M0 M H σ v Q s r q pins sh u I rv => by
  have p := pg_name (pos := pos) hN hi hx hf
  exact p.run pins sh σ H v u Q I rv (q _ (s.put (.refl s.mh) (show Own X.G M H (.imm d) v [] from ⟨rfl, r⟩) List.nodup_nil (fun _ z => nomatch z) (Nat.le_of_ble_eq_true hl)) (wipe_set hv))
def DGcs (X : Cx) (ws : List Nat) (Γ : List Sl) (tgs : List Expr) (put : List Sl) (ds : List D) : Prop := ∃ g, PGs X tgs g ∧ ∀ F M0 M H σ vs Q, S X.G F M0 M H σ Γ → Reps X.G M ds vs → (∀ σ', S X.G F M0 M H σ' put → wipe σ' ws = wipe σ ws → Q σ' H) → g vs σ H Q
theorem dgcs_nil {ws : List Nat} : DGcs X ws Γ [] Γ [] := ⟨_, pgs_nil, fun F M0 M H σ vs Q s r q => ⟨r, q σ s rfl⟩⟩
theorem dgcs_cons {ws : List Nat} {tgs : List Expr} {Γ1 put : List Sl} {d : D} {ds : List D} (h : DGc X ws Γ tg Γ1 d) (k : DGcs X ws Γ1 tgs put ds) (hs : (assignEach (tg :: tgs) X.env).map (·.2) = assign tg X.env :: (assignEach tgs X.env).map (·.2) := by rfl) : DGcs X ws Γ (tg :: tgs) put (d :: ds) := by
  obtain ⟨g, pg, hg⟩ := k
  refine ⟨_, pgs_cons (pg_w X tg) pg hs, fun F M0 M H σ vs Q s r q => ?_⟩
  obtain ⟨v, r', rfl, h1, h2⟩ := r
  exact ⟨v, r', rfl, h F M0 M H σ v _ s h1 fun σ1 s1 e1 => hg F M0 M H σ1 r' Q s1 h2 fun σ2 s2 e2 => q σ2 s2 (e2.trans e1)⟩
theorem dgc_tup {ws : List Nat} {tgs : List Expr} {put : List Sl} {ds : List D} {k : Nat} (hc : X.calm = true) (h : DGcs X ws Γ tgs put ds) (hn : (assignEach tgs X.env).length = ds.length := by rfl) (hst : (assignEach tgs X.env).findIdx? (·.1) = none := by rfl) : DGc X ws Γ (.Tuple tgs k pos) put (.tup ds) := by
  obtain ⟨g, pg, hg⟩ := h
  intro F M0 M H σ v Q s r q pins sh u I rv
  obtain ⟨a, vs, rfl, h1, h2⟩ := r
  exact (pg_tup (pos := pos) (k := k) hc pg hn hst).run pins sh σ H _ u Q I rv ⟨a, vs, rfl, same_sqt s.mh h1, by rw [h2.len], hg F M0 M H σ vs Q s h2 q⟩
theorem df_lc {scope : Scope} {ifs : List Expr} {et : β → T} {ei : α → D} {cf : α → R Bool} {f : α → R β} {mi : R (List α)} {put : α → List Sl} (own : List (Str × Nat)) (hc : X.calm = true) (hN : X.N.Nodup) (hi : DI X W Γ tg iter (fun xs => xs.map ei) mi) (hw : Wk Γ Γ)
    (hg : ∀ s H C cl fp x, DGc (blkX X scope s H C cl fp) (own.map (·.2)) (wipeΓ Γ (own.map (·.2))) tg (put x) (ei x))
    (ht : ∀ s H C cl fp x, DTs (blkX X scope s H C cl fp) (put x) ifs (cf x)) (he : ∀ s H C cl fp x, DF (blkX X scope s H C cl fp) wNo (put x) elt et (f x))
    (N' : List Str) (sc' : Scope) (hn1 : X.N = N' := by rfl) (hn2 : X.env.scope = sc' := by rfl) (ok : blkC N' sc' scope own = true := by decide +kernel) (hs : ∀ x, foldedSetIterable iter X.env x = pure x := by intro _; rfl) :
    DF X W Γ (.ListComp elt [⟨tg, iter, ifs, 0⟩] scope pos) (fun ys => .lst (ys.map et)) (mi >>= fun xs => compR cf f xs) :=
  dmk ⟨_, pe_lc (own := own) (g := fun v σ H Q => ∀ s Hh C cl fp, wG (blkX X scope s Hh C cl fp) tg v σ H Q) (tt := fun σ H Q => ∀ s Hh C cl fp, wTs (blkX X scope s Hh C cl fp) ifs σ H Q) (te := fun σ H Q => ∀ s Hh C cl fp, wE (blkX X scope s Hh C cl fp) elt σ H Q) hc hN (pi_w X iter tg) (blkOk_by (by rw [hn1, hn2]; exact ok))
    (fun s Hh C cl fp => ⟨fun pins sh σ H v u Q I r h => h s Hh C cl fp pins sh u I r⟩) (fun s Hh C cl fp => ⟨fun pins sh σ H Q I h => h s Hh C cl fp pins sh I⟩) (fun s Hh C cl fp => ⟨fun pins sh σ H Q I h => h s Hh C cl fp pins sh I⟩) hs,
    fun F M0 M H σ Q st po => lc_reads (put := put) (E := fun c => ∀ M' H', Gr M H M' H' → Er X.G W c σ H') st (fun R po => hi F M0 M H σ R st po)
      (fun x F M0 M H σ' v Q s e r q s0 Hh C cl fp => hg s0 Hh C cl fp x F M0 M H σ' v Q s r fun σ2 s2 e2 => q M H σ2 (.refl s.mh) s2 (by rw [e2, e, wipe_idem]))
      (fun x F M0 M H σ' Q s po s0 Hh C cl fp => by
        obtain ⟨tt, pt, qt⟩ := ht s0 Hh C cl fp x
        exact fun pins sh I => pt.run pins sh σ' H Q I (qt F M0 M H σ' Q s po))
      (fun x F M0 M H σ' Q s po s0 Hh C cl fp => he s0 Hh C cl fp x F M0 M H σ' Q s (po.imp (fun _ _ k => k) fun _ z => z.elim)) po⟩
theorem st_setLc {n : Str} {py pos2 : Pos} {scope : Scope} {ifs : List Expr} {et : β → T} {ei : α → D} {cf : α → R Bool} {f : α → R β} {mi : R (List α)} {put : α → List Sl} (i : Nat) (own : List (Str × Nat)) (hc : X.calm = true) (hN : X.N.Nodup) (hi : DI X W Γ tg iter (fun xs => xs.map ei) mi)
    (hg : ∀ s H C cl fp x, DGc (blkX X scope s H C cl fp) (own.map (·.2)) (wipeΓ Γ (own.map (·.2))) tg (put x) (ei x))
    (ht : ∀ s H C cl fp x, DTs (blkX X scope s H C cl fp) (put x) ifs (cf x)) (he : ∀ s H C cl fp x, DF (blkX X scope s H C cl fp) wNo (put x) elt et (f x)) (hw : Wk Γe Γ)
    (N' : List Str) (sc' : Scope) (hn1 : X.N = N' := by rfl) (hn2 : X.env.scope = sc' := by rfl) (ok : blkC N' sc' scope own = true := by decide +kernel) (hs : ∀ x, foldedSetIterable iter X.env x = pure x := by intro _; rfl)
    (hy : X.N[i]? = some n := by rfl) (hyl : X.env.scope.names.lookup n = some .local := by rfl) (hl : Nat.blt i Γ.length = true := by rfl) (hsw : swapsWith (.ListComp elt [⟨tg, iter, ifs, 0⟩] scope pos2) (some (.Name n py)) pos.line X.env = pure true := by exact sw_true rfl rfl rfl (by decide +kernel)) :
    St1 X W Γe Γ (.Assign [.Name n py] (.ListComp elt [⟨tg, iter, ifs, 0⟩] scope pos2) pos) (fun ys => .n (Γ.set i (.ow (.lst (ys.map et))))) (mi >>= fun xs => compR cf f xs) :=
  smk ⟨_, ps_setLc (own := own) (i := i) (g := fun v σ H Q => ∀ s Hh C cl fp, wG (blkX X scope s Hh C cl fp) tg v σ H Q) (tt := fun σ H Q => ∀ s Hh C cl fp, wTs (blkX X scope s Hh C cl fp) ifs σ H Q) (te := fun σ H Q => ∀ s Hh C cl fp, wE (blkX X scope s Hh C cl fp) elt σ H Q) hc hN hy hyl hsw (pi_w X iter tg) (blkOk_by (by rw [hn1, hn2]; exact ok))
    (fun s Hh C cl fp => ⟨fun pins sh σ H v u Q I r h => h s Hh C cl fp pins sh u I r⟩) (fun s Hh C cl fp => ⟨fun pins sh σ H Q I h => h s Hh C cl fp pins sh I⟩) (fun s Hh C cl fp => ⟨fun pins sh σ H Q I h => h s Hh C cl fp pins sh I⟩) hs,
    fun F M0 M H σ D st po => lc_reads (put := put) (E := fun c => ∀ M' H', Gr M H M' H' → Er X.G W c σ H') (Q := fun x H1 => gName i x σ H1 D.nx) st (fun R po => hi F M0 M H σ R st po)
      (fun x F M0 M H σ' v Q s e r q s0 Hh C cl fp => hg s0 Hh C cl fp x F M0 M H σ' v Q s r fun σ2 s2 e2 => q M H σ2 (.refl s.mh) s2 (by rw [e2, e, wipe_idem]))
      (fun x F M0 M H σ' Q s po s0 Hh C cl fp => by
        obtain ⟨tt, pt, qt⟩ := ht s0 Hh C cl fp x
        exact fun pins sh I => pt.run pins sh σ' H Q I (qt F M0 M H σ' Q s po))
      (fun x F M0 M H σ' Q s po s0 Hh C cl fp => he s0 Hh C cl fp x F M0 M H σ' Q s (po.imp (fun _ _ k => k) fun _ z => z.elim))
      (po.imp (fun ys _ k v M' H' as g o nd fr => Kn.nx k _ rfl M' H' _ (st.put g o nd fr (Nat.le_of_ble_eq_true hl))) fun c z => er_wk st hw z)⟩
end
end Cn
/-! Cn7: equality of data, isinstance, exceptions, the end -/
namespace Cn
open PySem PySem.Spec L2
mutual
def toPy : D → PyData
  | .any => .dict []
  | .non => .none
  | .bl b => .bool b
  | .int i => .int i
  | .str s => .str s
  | .tup ds => .tuple (toPys ds)
  | .lst ds => .list (toPys ds)
  | .frl ds => .list (toPys ds)
  | .dic _ _ => .dict []
  | .dit _ _ => .dict []
  | .obj _ _ _ => .dict []
def toPys : List D → List PyData
  | [] => []
  | d :: ds => toPy d :: toPys ds
end
section
variable {G : Ctx} {M H : Hp}
mutual
theorem Rep.dp (mh : Same M H) : ∀ (d : D) (v : V), PyData.canLay0 (toPy d) = true → Rep G M d v → Dp G.K H v (toPy d)
  | .any, v, h, r => nomatch h
  | .non, v, h, r => by rw [show v = .non from r]; exact .non
  | .bl b, v, h, r => by rw [show v = .bl b from r]; exact .bl b
  | .int b, v, h, r => by rw [show v = .int b from r]; exact .int b
  | .str b, v, h, r => by rw [show v = .str b from r]; exact .str b
  | .tup ds, v, h, ⟨a, vs, h1, h2, h3⟩ => by rw [h1]; exact .tup (same_sqt mh h2) (Reps.dp mh ds vs h h3)
  | .lst ds, v, h, ⟨a, vs, h1, h2, h3⟩ => by rw [h1]; exact .lst (.of (mh _ _ h2)) (Reps.dp mh ds vs h h3)
  | .frl ds, v, h, ⟨a, vs, h1, h2, h3⟩ => by rw [h1]; exact .lst (mh.seq h2) (Reps.dp mh ds vs h h3)
  | .dic _ _, v, h, r => nomatch h
  | .dit _ _, v, h, r => nomatch h
  | .obj _ _ _, v, h, r => nomatch h
theorem Reps.dp (mh : Same M H) : ∀ (ds : List D) (vs : List V), PyData.canLayAll0 (toPys ds) = true → Reps G M ds vs → DpAll G.K H vs (toPys ds)
  | [], vs, h, r => by rw [show vs = [] from r]; exact .nil
  | d :: ds, vs, h, ⟨v, r, h1, h2, h3⟩ => by
    rw [h1]
    have h : (PyData.canLay0 (toPy d) && PyData.canLayAll0 (toPys ds)) = true := h
    rw [Bool.and_eq_true] at h
    exact .cons (Rep.dp mh d v h.1 h2) (Reps.dp mh ds r h.2 h3)
end
end
def eqO (d e : D) : Option Bool := if SeqAt.shaped (toPy d) && SeqAt.shaped (toPy e) then some (PyData.eqv (toPy d) (toPy e)) else none
def neO (d e : D) : Option Bool := (eqO d e).map (!·)
section
variable {X : Cx} {W : WX} {Γe Γ Γt : List Sl} {a b e c tg elt iter : Expr} {es : List Expr} {α β γ ω ω1 : Type} {pos : Pos} {s : Stmt} {rest ss A B : List Stmt}
/-- a value that is compared as data -/
abbrev DE (X : Cx) (W : WX) (Γ : List Sl) (e : Expr) {α : Type} (emb : α → D) (m : R α) : Prop :=
  JQ X Γ (wE X e) fun F M0 M H σ Q => Po m (fun x => ∀ v M' H', Gr M H M' H' → (∀ H'', Same H' H'' → PyData.canLay0 (toPy (emb x)) = true → Dp X.K H'' v (toPy (emb x))) → Q v H') (fun c => ∀ M' H', Gr M H M' H' → Er X.G W c σ H')
theorem de_dd {emb : α → D} {m : R α} (h : DD X W Γ e emb m) : DE X W Γ e emb m := ⟨fun F M0 M H σ Q s po => h F M0 M H σ Q s (po.imp (fun x _ k v M' H' g r => k v M' H' g fun H'' s2 c => Rep.dp (G := X.G) (g.mh.trans s2) _ _ c r) fun _ z => z)⟩
theorem de_dl {ei : β → D} {m : R (List β)} (h : DL X W Γ e (fun xs => xs.map ei) m) : DE X W Γ e (fun xs => .lst (xs.map ei)) m := ⟨fun F M0 M H σ Q s po => h F M0 M H σ Q s (po.imp (fun x _ k a vs M' H' g hl r => k _ M' H' g fun H'' s2 c => .lst (s2.seq hl) (Reps.dp (G := X.G) (g.mh.trans s2) _ _ c r)) fun _ z => z)⟩
theorem eqO_some {d e : D} {k : Bool} (h : eqO d e = some k) : SeqAt.shaped (toPy d) = true ∧ SeqAt.shaped (toPy e) = true ∧ k = PyData.eqv (toPy d) (toPy e) := by
  unfold eqO at h
  cases c : (SeqAt.shaped (toPy d) && SeqAt.shaped (toPy e)) with
  | false => rw [c] at h; cases h
  | true =>
    rw [c] at h
    rw [Bool.and_eq_true] at c
    exact ⟨c.1, c.2, (Option.some.inj h).symm⟩
theorem two_eq {neg : Bool} {r : R2} {ea : α → D} {eb : β → D} {ma : R α} {mb : R β} {F M0 M H : Hp} {σ : St} {Q : VK} (hr : ∀ x y d e H Q, Dp X.K H x d → Dp X.K H y e → SeqAt.shaped d = true → SeqAt.shaped e = true → Q (.bl (neg != PyData.eqv d e)) H → r x y H Q) (ha : DE X W Γ a ea ma) (hb : DE X W Γ b eb mb) (s : S X.G F M0 M H σ Γ)
    (po : Po (ma >>= fun x => mb >>= fun y => ofO ((eqO (ea x) (eb y)).map (neg != ·))) (fun x => WD X.G M H (.bl x) Q) (fun c => ∀ M' H', Gr M H M' H' → Er X.G W c σ H')) : tOp r (wE X a) (wE X b) σ H Q := by
  refine ha F M0 M H σ _ s (po.bind.imp (fun x _ k v M1 H1 g1 p1 => ?_) fun _ z => z)
  refine hb F M0 M1 H1 σ _ (s.grow g1) (k.bind.imp (fun y _ k w M2 H2 g2 p2 => ?_) fun c z M' H' g => z M' H' (g1.trans g))
  obtain ⟨z, e, k⟩ := k.ofO
  cases q : eqO (ea x) (eb y) with
  | none => rw [q] at e; cases e
  | some k' =>
    rw [q] at e
    cases e
    obtain ⟨s1, s2, rfl⟩ := eqO_some q
    exact hr v w _ _ H2 _ (p1 H2 g2.hh (SeqAt.canLay_of_shaped s1)) (p2 H2 (.refl _) (SeqAt.canLay_of_shaped s2)) s1 s2 (k _ M2 H2 (g1.trans g2) rfl)
theorem dd_eq {ea : α → D} {eb : β → D} {ma : R α} {mb : R β} (hu : X.A.units + 64 < cLine) (ha : DE X W Γ a ea ma) (hb : DE X W Γ b eb mb) : DD X W Γ (.Compare a [.Eq] [b] pos) D.bl (ma >>= fun x => mb >>= fun y => ofO ((eqO (ea x) (eb y)).map (false != ·))) :=
  dmk ⟨_, pe_cmpR (op_eqD hu) (pe_w X a) (pe_w X b) (nomark _), fun F M0 M H σ Q s po => two_eq (neg := false) (fun x y d e H Q h1 h2 h3 h4 q => ⟨d, e, h1, h2, h3, h4, by rw [Bool.false_bne] at q; exact q⟩) ha hb s po⟩
theorem dd_ne {ea : α → D} {eb : β → D} {ma : R α} {mb : R β} (hu : X.A.units + 64 < cLine) (ha : DE X W Γ a ea ma) (hb : DE X W Γ b eb mb) : DD X W Γ (.Compare a [.NotEq] [b] pos) D.bl (ma >>= fun x => mb >>= fun y => ofO ((eqO (ea x) (eb y)).map (true != ·))) :=
  dmk ⟨_, pe_cmpR (op_neD hu) (pe_w X a) (pe_w X b) (nomark _), fun F M0 M H σ Q s po => two_eq (neg := true) (fun x y d e H Q h1 h2 h3 h4 q => ⟨d, e, h1, h2, h3, h4, by rw [Bool.true_bne] at q; exact q⟩) ha hb s po⟩
theorem dt_eq {ea : α → D} {eb : β → D} {ma : R α} {mb : R β} (hu : X.A.units + 64 < cLine) (ha : DE X W Γ a ea ma) (hb : DE X W Γ b eb mb) : DT X W Γ (.Compare a [.Eq] [b] pos) (ma >>= fun x => mb >>= fun y => ofO ((eqO (ea x) (eb y)).map (false != ·))) :=
  tmk ⟨_, pt_cmpR (op_eqD hu) (pe_w X a) (pe_w X b) (nomark _), fun F M0 M H σ Q s po => two_eq (neg := false) (fun x y d e H Q h1 h2 h3 h4 q => ⟨d, e, h1, h2, h3, h4, by rw [Bool.false_bne] at q; exact q⟩) ha hb s (po.imp (fun x _ k v M' H' g q => ⟨x, q, k M' H' g⟩) fun _ z => z)⟩
theorem dt_ne {ea : α → D} {eb : β → D} {ma : R α} {mb : R β} (hu : X.A.units + 64 < cLine) (ha : DE X W Γ a ea ma) (hb : DE X W Γ b eb mb) : DT X W Γ (.Compare a [.NotEq] [b] pos) (ma >>= fun x => mb >>= fun y => ofO ((eqO (ea x) (eb y)).map (true != ·))) :=
  tmk ⟨_, pt_cmpR (op_neD hu) (pe_w X a) (pe_w X b) (nomark _), fun F M0 M H σ Q s po => two_eq (neg := true) (fun x y d e H Q h1 h2 h3 h4 q => ⟨d, e, h1, h2, h3, h4, by rw [Bool.true_bne] at q; exact q⟩) ha hb s (po.imp (fun x _ k v M' H' g q => ⟨x, q, k M' H' g⟩) fun _ z => z)⟩
/-! ### isinstance of data -/
def tyD : D → Option String
  | .non => some "NoneType"
  | .bl _ => some "bool"
  | .int _ => some "int"
  | .str _ => some "str"
  | .tup _ => some "tuple"
  | .lst _ => some "list"
  | .frl _ => some "list"
  | .dic _ _ => some "dict"
  | .dit _ _ => some "dict"
  | _ => none
theorem tyX_of {G : Ctx} {M H : Hp} {d : D} {v : V} {t : String} (mh : Same M H) (r : Rep G M d v) (h : tyD d = some t) : TyX G.K H v (.type t) := by
  cases d with
  | any => cases h
  | non => cases h; rw [show v = .non from r]; exact .base .non
  | bl b => cases h; rw [show v = .bl b from r]; exact .base (.bl b)
  | int b => cases h; rw [show v = .int b from r]; exact .base (.int b)
  | str b => cases h; rw [show v = .str b from r]; exact .base (.str b)
  | tup ds =>
    cases h
    obtain ⟨a, vs, rfl, h2, h3⟩ := r
    rcases h2 with (h2 | ⟨o, h2⟩) | ⟨o, its, n, k, c, _⟩
    · exact .base (.tup (mh _ _ h2))
    · exact .fTuple (mh _ _ h2)
    · exact .kTuple k c
  | lst ds =>
    cases h
    obtain ⟨a, vs, rfl, h2, h3⟩ := r
    exact .base (.lst (mh _ _ h2))
  | frl ds =>
    cases h
    obtain ⟨a, vs, rfl, h2, h3⟩ := r
    rcases h2 with (h2 | ⟨o, h2⟩) | ⟨o, its, n, k, c, _⟩
    · exact .base (.lst (mh _ _ h2))
    · exact .base (.frz (mh _ _ h2))
    · exact .kList k c
  | dic ks ds =>
    cases h
    obtain ⟨a, vs, rfl, h2, h3⟩ := r
    exact .base (.dK (mh _ _ h2))
  | dit ks ds =>
    cases h
    obtain ⟨a, vs, rfl, h2, h3⟩ := r
    exact .base (.dT (mh _ _ h2))
  | obj C fs ds => cases h
theorem dd_isi {emb : α → D} {m : R α} {n : Str} {t u : String} {k : Bool} {p p2 : Pos} (h : DD X W Γ e emb m) (hm : X.mg "isinstance" = none) (hn : X.mg n = none) (hv : bootBuiltins n = some (.type u)) (ht : ∀ x, tyD (emb x) = some t) (hk : kitB t u = some k) (hg : Gl X "isinstance" := by rfl) (hgn : Gl X n := by rfl)
    (hnn : n ≠ "__name__" := by decide) (hd : (n == ("__debug__" : Str)) = false := by decide) (hs : starEach [e, .Name n p2] X.env = (false, eval e X.env) :: starEach [.Name n p2] X.env := by exact star_cons rfl) (hs2 : starEach [Expr.Name n p2] X.env = (false, eval (.Name n p2) X.env) :: starEach [] X.env := by exact star_cons rfl) (hpl : (backTo pos (starEach [Expr.Name n p2] X.env)).any (·.1) = false := by exact star_none rfl) :
    DD X W Γ (.Call (.Name "isinstance" p) [e, .Name n p2] [] pos) D.bl (m >>= fun _ => .ok k) :=
  dmk ⟨_, pe_callB call_isi hg hm (by decide +kernel) (pa_cons (pe_w X e) (pa_cons (pe_bltn (v := .ty u) hgn hn hv rfl hnn hd) pa_nil (hs := hs2)) (hs := hs)) (he := hs) (hpl := hpl), fun F M0 M H σ Q s po => h F M0 M H σ _ s (po.bind.imp (fun x _ q v M1 H1 g1 r1 =>
    ⟨v, .ty u, .type t, .type u, k, rfl, .ty u, tyX_of (G := X.G) g1.mh r1 (ht x), kit_ty hk, q _ M1 H1 g1 rfl⟩) fun _ z => z)⟩
/-! ### exceptions -/
structure XcF (K : PySem.W.Frag) (mg : Str → Option Value) (c : Str) (C : Addr) : Prop where
  g : mg c = some (.ref C)
  x : PySem.W.excIn K C [.type "ValueError", .type "Exception", .type "BaseException", .type "object"] "ValueError.__new__" = true
  k : PySem.W.keepIn K (.ref C) = true
  b : PySem.W.subIn K (.ref C) (.type "BaseException") = some true
  t : PySem.W.typeIn K (.ref C) = some (.type "type")
theorem bk_raise {n m : Str} {C : Addr} {j : Nat} {p p2 pos2 : Pos} {κ : ω → Kd} (f : XcF X.K X.mg n C) (hc : X.calm = true) (tk : Takes X W) (hw : Wk Γe Γ) (hg : Gl X n := by rfl) (hd : (n == ("__debug__" : Str)) = false := by decide) :
    Bk X W Γe Γ (.Raise (some (.Call (.Name n p) [.Constant (.str m) j p2] [] pos)) none pos2 :: rest) κ (.err n) :=
  bmk ⟨_, pss_cons (ps_raise hc tk (pmk_own PySem.F.excBase_ValueError f.x f.g f.k (raises_own f.b f.t) hg hd)) (pss_w X rest), fun F M0 M H σ D s po => (po : ∀ M' H' σ', S X.G F M0 M' H' σ' Γe → Er X.G W n σ' H') M H σ (s.wk hw) C f.g⟩
def catchR {ω : Type} (tbl : Str → Option Bool) (m : R ω) (h : Str → R ω) : R ω :=
  match m with
  | .err c => match tbl c with
    | none => .bad
    | some true => noErr (h c)
    | some false => .err c
  | m => m
theorem st_try {x : Str} {cv : Value} {tbl : Str → Option Bool} {mb : R ω} {hm : Str → R ω} {κ : ω → Kd} {b₀ : Stmt} {suite : List Stmt} {np pos' : Pos} (hc : Names X x cv) (tk : Takes X W)
    (hb : ∀ (W' : WX) (pn : List (Addr × Obj)) (xe : Value → Shared → Prop), Takes (X.tr pn xe) W' → PassesOwn (model X.prog X.w) X.A X.env xe → Bk (X.tr pn xe) W' Γt Γ A κ mb)
    (ht : ∀ k b a, tbl k = some b → X.mg k = some (.ref a) → PySem.W.exmOne X.K (.ref a) cv = some b)
    (hsu : ∀ k D, tbl k = some true → X.mg k = some (.ref D) → ∀ (a : Addr) (oe : Obj) (pn : List (Addr × Obj)), Zc (.ref D) none oe → (∃ vs, oe.data = .fields vs) → Bk (X.suite a ((a, oe) :: pn)) wNo Γe Γt (b₀ :: suite) κ (hm k)) (hw : Wk Γe Γt)
    (hs : X.stack = X.env :: X.outer := by rfl) (hf : X.env.frame = some X.env.locals := by rfl) :
    St1 X W Γe Γ (.Try A [.ExceptHandler (some (.Name x np)) none (b₀ :: suite) pos'] [] [] pos) κ (catchR tbl mb hm) :=
  smk ⟨_, ps_try_only (tb := fun W' D σ H => ∀ pn xe, Takes (X.tr pn xe) W' → PassesOwn (model X.prog X.w) X.A X.env xe → wSs (X.tr pn xe) A D σ H) (ts := fun a cls d D σ H => ∀ oe pn, Zc cls d oe → (∃ vs, oe.data = .fields vs) → wSs (X.suite a ((a, oe) :: pn)) (b₀ :: suite) D σ H) (Wout := W) hs hf hc tk
      (fun W' pn xe t p => ⟨fun pins s σ H D I h => h pn xe t p pins s I⟩) (fun a oe cls d pn z v => ⟨fun pins s σ H D I h => h oe pn z v pins s I⟩), fun F M0 M H σ D st po pn xe t p => by
    refine hb _ pn xe t p F M0 M H σ D st ?_
    cases mb with
    | bad => exact po
    | ok o => exact po
    | err k =>
      show ∀ M' H' σ', S X.G F M0 M' H' σ' Γt → Er X.G _ k σ' H'
      intro M' H' σ' st' a ha
      have po : Po (match tbl k with
        | none => R.bad
        | some true => noErr (hm k)
        | some false => R.err k) _ _ := po
      cases e : tbl k with
      | none => rw [e] at po; exact po.elim
      | some b =>
        rw [e] at po
        refine ⟨b, ht k b a e ha, fun eb a' na oe pn z v => ?_, fun eb => ?_⟩
        · subst eb
          exact hsu k a e ha a' oe pn z v F M0 M' H' σ' D st' ((Po.noErr po).imp (fun _ _ q => q) fun _ z => z.elim)
        · subst eb
          exact (po : ∀ M' H' σ', S X.G F M0 M' H' σ' Γe → Er X.G W k σ' H') M' H' σ' (st'.wk hw) a ha⟩
/-- .. except X as n: slot i is n's -/
theorem S.pin {G : Ctx} {F M0 M H : Hp} {σ : St} {v : V} {i : Nat} (s : S G F M0 M H σ Γ) (hi : i < Γ.length) : S G F M0 M H (σ.set i (some v)) (Γ.set i (.pn v (.imm .any))) := by
  obtain ⟨as, f, sa⟩ := s
  obtain ⟨bs, sb, sub⟩ : ∃ bs, Sat G M H (Γ.set i (.pn v (.imm .any))) (σ.set i (some v)) bs ∧ bs.Sublist as := by
    clear f
    induction Γ generalizing σ as i with
    | nil => exact absurd hi (Nat.not_lt_zero _)
    | cons x Γ ih =>
      cases i with
      | zero =>
        cases x with
        | un => obtain ⟨x, r, h1, h2⟩ := sa; rw [h1]; exact ⟨as, ⟨r, [], as, rfl, rfl, ⟨rfl, trivial⟩, h2⟩, .refl _⟩
        | ow t => obtain ⟨w, r, a1, a2, h1, h2, h3, h4⟩ := sa; rw [h1]; exact ⟨a2, ⟨r, [], a2, rfl, rfl, ⟨rfl, trivial⟩, h4⟩, by rw [h2]; exact List.sublist_append_right _ _⟩
        | pn w t => obtain ⟨r, a1, a2, h1, h2, h3, h4⟩ := sa; rw [h1]; exact ⟨a2, ⟨r, [], a2, rfl, rfl, ⟨rfl, trivial⟩, h4⟩, by rw [h2]; exact List.sublist_append_right _ _⟩
      | succ i =>
        have hi' := Nat.lt_of_succ_lt_succ hi
        cases x with
        | un =>
          obtain ⟨x, r, h1, h2⟩ := sa
          obtain ⟨bs, q1, q2⟩ := ih (i := i) (as := as) (σ := r) hi' h2
          rw [h1]; exact ⟨bs, ⟨x, _, rfl, q1⟩, q2⟩
        | ow t =>
          obtain ⟨w, r, a1, a2, h1, h2, h3, h4⟩ := sa
          obtain ⟨bs, q1, q2⟩ := ih (i := i) (as := a2) (σ := r) hi' h4
          rw [h1]; exact ⟨a1 ++ bs, ⟨w, _, a1, bs, rfl, rfl, h3, q1⟩, by rw [h2]; exact List.Sublist.append_left q2 a1⟩
        | pn w t =>
          obtain ⟨r, a1, a2, h1, h2, h3, h4⟩ := sa
          obtain ⟨bs, q1, q2⟩ := ih (i := i) (as := a2) (σ := r) hi' h4
          rw [h1]; exact ⟨a1 ++ bs, ⟨_, a1, bs, rfl, rfl, h3, q1⟩, by rw [h2]; exact List.Sublist.append_left q2 a1⟩
  exact ⟨bs, f.sub sub, sb⟩
theorem S.unset {G : Ctx} {F M0 M H : Hp} {σ : St} {i : Nat} (s : S G F M0 M H σ Γ) : S G F M0 M H (σ.set i none) (Γ.set i .un) := by
  obtain ⟨as, f, sa⟩ := s
  obtain ⟨bs, sb, sub⟩ := Sat.unset (i := i) sa
  exact ⟨bs, f.sub sub, sb⟩
/-- the ends of a suite: slot i is empty behind it -/
def kUn (i : Nat) (k : Kd) : Kd := { nx := k.nx, rt := k.rt, bk := k.bk, ct := k.ct }
theorem st_tryAs {x n : Str} {cv : Value} {tbl : Str → Option Bool} {mb : R ω} {hm : Str → R ω} {κ : ω → Kd} {b₀ : Stmt} {suite : List Stmt} {np pos' : Pos} (i : Nat) (hN : X.N.Nodup) (hc : Names X x cv) (tk : Takes X W)
    (hb : ∀ (W' : WX) (pn : List (Addr × Obj)) (xe : Value → Shared → Prop), Takes (X.tr pn xe) W' → PassesOwn (model X.prog X.w) X.A X.env xe → Bk (X.tr pn xe) W' Γt Γ A κ mb)
    (ht : ∀ k b a, tbl k = some b → X.mg k = some (.ref a) → PySem.W.exmOne X.K (.ref a) cv = some b)
    (hsu : ∀ k D, tbl k = some true → X.mg k = some (.ref D) → ∀ (a : Addr) (oe : Obj) (pn : List (Addr × Obj)), Zc (.ref D) none oe → (∃ vs, oe.data = .fields vs) → Bk (X.suite a ((a, oe) :: pn)) wNo Γe (Γt.set i (.pn (.ref a) (.imm .any))) (b₀ :: suite) (fun o => (κ o).rr) (hm k)) (hw : Wk Γe Γt) (hl : Nat.blt i Γt.length = true := by rfl)
    (hi : X.N[i]? = some n := by rfl) (hln : X.env.kindOf n = some .local := by rfl)
    (hs : X.stack = X.env :: X.outer := by rfl) (hf : X.env.frame = some X.env.locals := by rfl) :
    St1 X W Γe Γ (.Try A [.ExceptHandler (some (.Name x np)) (some n) (b₀ :: suite) pos'] [] [] pos) κ (catchR tbl mb hm) :=
  smk ⟨_, ps_try_as (i := i) (tb := fun W' D σ H => ∀ pn xe, Takes (X.tr pn xe) W' → PassesOwn (model X.prog X.w) X.A X.env xe → wSs (X.tr pn xe) A D σ H) (ts := fun a cls d D σ H => ∀ oe pn, Zc cls d oe → (∃ vs, oe.data = .fields vs) → wSs (X.suite a ((a, oe) :: pn)) (b₀ :: suite) D σ H) (Wout := W) hs hf hN hi hln hc tk
      (fun W' pn xe t p => ⟨fun pins s σ H D I h => h pn xe t p pins s I⟩) (fun a oe cls d pn z v => ⟨fun pins s σ H D I h => h oe pn z v pins s I⟩), fun F M0 M H σ D st po pn xe t p => by
    refine hb _ pn xe t p F M0 M H σ D st ?_
    cases mb with
    | bad => exact po
    | ok o => exact po
    | err k =>
      show ∀ M' H' σ', S X.G F M0 M' H' σ' Γt → Er X.G _ k σ' H'
      intro M' H' σ' st' a ha
      have po : Po (match tbl k with
        | none => R.bad
        | some true => noErr (hm k)
        | some false => R.err k) _ _ := po
      cases e : tbl k with
      | none => rw [e] at po; exact po.elim
      | some b =>
        rw [e] at po
        refine ⟨b, ht k b a e ha, fun eb a' na oe pn z v => ?_, fun eb => ?_⟩
        · subst eb
          exact hsu k a e ha a' oe pn z v F M0 M' H' _ _ (st'.pin (Nat.le_of_ble_eq_true hl)) ((Po.noErr po).imp (fun _ _ q => ⟨fun Γ e => (nomatch e), fun t Γ e => q.rt t Γ e, fun Γ e => (nomatch e), fun Γ e => (nomatch e)⟩) fun _ z => z.elim)
        · subst eb
          exact (po : ∀ M' H' σ', S X.G F M0 M' H' σ' Γe → Er X.G W k σ' H') M' H' σ' (st'.wk hw) a ha⟩
/-- isinstance(e, C) of the caught exception -/
theorem dd_isE {n cn : Str} {a D : Addr} {oe : Obj} {pn : List (Addr × Obj)} {cv : Value} {cV : V} {k : Bool} {p p1 p2 : Pos} (i : Nat) (h : Γ[i]? = some (.pn (.ref a) (.imm .any))) (C : ExcC X.K D) (hz : Zc (.ref D) none oe) (hf : ∃ vs, oe.data = .fields vs) (hm : X.mg "isinstance" = none)
    (hcl : PE (X.suite a ((a, oe) :: pn)) (.Name cn p2) (tC cV)) (hcv : ∀ u, RelV cV u → u = cv) (hk : PySem.W.kitOne X.K (.ref D) cv = some k) (hN : X.N[i]? = some n := by rfl) (hv : Vis X.env.scope n := by first | exact Or.inl rfl | exact Or.inr (Or.inl rfl) | exact Or.inr (Or.inr rfl))
    (hd : (n == ("__debug__" : Str)) = false := by decide) (hcd : (n == ("__classdict__" : Str)) = false := by decide) (hg : Gl X "isinstance" := by rfl)
    (hs : starEach [.Name n p1, .Name cn p2] X.env = (false, eval (.Name n p1) X.env) :: starEach [.Name cn p2] X.env := by exact star_cons rfl) (hs2 : starEach [Expr.Name cn p2] X.env = (false, eval (.Name cn p2) X.env) :: starEach [] X.env := by exact star_cons rfl) (hpl : (backTo pos (starEach [Expr.Name cn p2] X.env)).any (·.1) = false := by exact star_none rfl) :
    DD (X.suite a ((a, oe) :: pn)) W Γ (.Call (.Name "isinstance" p) [.Name n p1, .Name cn p2] [] pos) Cn.D.bl (.ok k) :=
  dmk (X := X.suite a ((a, oe) :: pn)) ⟨_, pe_callB (X := X.suite a ((a, oe) :: pn)) (call_isE C hz hf) hg hm (by decide +kernel) (pa_cons (X := X.suite a ((a, oe) :: pn)) (pe_var (X := X.suite a ((a, oe) :: pn)) hN hv hd hcd) (pa_cons (X := X.suite a ((a, oe) :: pn)) hcl pa_nil (hs := hs2)) (hs := hs)) (he := hs) (hpl := hpl), fun F M0 M H σ Q s po => by
    obtain ⟨as, f, sa⟩ := id s
    obtain ⟨q1, _⟩ := Sat.getP sa h
    exact ⟨_, q1, cV, cv, k, rfl, hcv, hk, po _ M H (.refl s.mh) rfl⟩⟩
end
/-! ### the end of a law -/
/-- what a law asks: a list of at most 63 ints is handed in, True comes out -/
def spLaw (K : PySem.W.Frag) : Sp := fun vs H Q _ => ∃ (a : Addr) (ns : List Int), vs = [.ref a] ∧ SqL K H a (ns.map V.int) ∧ ns.length ≤ 63 ∧ ∀ H', Q (.bl true) H'
theorem law_of {P : Program} {w : World} {K : PySem.W.Frag} {mg : Str → Option Value} {base : Heap} {k : Nat} {f : Addr} {fd : FuncData} {ps : List Str} {g : List Int → R Bool} (h : ∀ ns : List Int, ns.length ≤ 63 → g ns = .ok true)
    (F : FnOk P w K mg base (L2.CX P w) k f fd ps (SpF ⟨K, mg⟩ (fun p : List Int × Unit => [D.frl (p.1.map D.int)]) (fun b => .imm (.bl b)) fun p => g p.1)) : FnOk P w K mg base (L2.CX P w) k f fd ps (spLaw K) := by
  refine F.imp fun vs H Q E ⟨a, ns, e1, e2, e3, q⟩ => ?_
  subst e1
  refine ⟨(ns, ()), H, .refl _, ⟨_, [], rfl, ⟨a, _, rfl, e2, ints_reps ns⟩, rfl⟩, ?_⟩
  show Po (g ns) _ _
  rw [h ns e3]
  intro v M' H' as gr o nd fr
  rw [show v = .bl true from o.2]
  exact q H'
theorem cx_false {P : Program} {w : World} {H : Hp} {s : Shared} {e : Value} {s' : Shared} (h : L2.CX P w [] H s (fun _ _ _ => False) e s') : False := by
  obtain ⟨_, _, _, _, _, _, _, _, _, _, _, _, z⟩ := h
  exact z
end Cn
/-! Cn8: what the printed proofs ask besides -/
namespace Cn
open PySem PySem.Spec L2
def eOpt {α : Type} (e : α → D) : Option α → D
  | none => .non
  | some x => e x
def unp2 {α : Type} : List α → Option (α × α)
  | [a, b] => some (a, b)
  | _ => none
def unp3 {α : Type} : List α → Option (α × α × α)
  | [a, b, c] => some (a, b, c)
  | _ => none
def unp4 {α : Type} : List α → Option (α × α × α × α)
  | [a, b, c, d] => some (a, b, c, d)
  | _ => none
section
variable {X : Cx} {W : WX} {Γe Γ Γt : List Sl} {a b e c tg elt iter : Expr} {es : List Expr} {α β γ ω ω1 : Type} {pos : Pos} {s : Stmt} {rest ss A B : List Stmt}
/-- the same data, said otherwise -/
theorem dd_co {emb : α → D} {emb' : β → D} {m : R α} (h : DD X W Γ e emb m) (g : α → β) (he : ∀ x, emb x = emb' (g x) := by intro _; rfl) : DD X W Γ e emb' (m >>= fun x => .ok (g x)) := ⟨fun F M0 M H σ Q s po => h F M0 M H σ Q s (po.bind.imp (fun x _ k v M' H' g r => k v M' H' g (by rw [← he]; exact r)) fun _ z => z)⟩
theorem dd_coO {emb : α → D} {emb' : β → D} {m : R α} (h : DD X W Γ e emb m) (g : α → Option β) (he : ∀ x y, g x = some y → emb x = emb' y) : DD X W Γ e emb' (m >>= fun x => ofO (g x)) := ⟨fun F M0 M H σ Q s po => h F M0 M H σ Q s (po.bind.imp (fun x _ k v M' H' gr r => by
  obtain ⟨z, e, k⟩ := k.ofO
  exact k v M' H' gr (by rw [← he x z e]; exact r)) fun _ z => z)⟩
theorem unp2_some {xs : List α} {y} (h : unp2 xs = some y) : xs = [y.1, y.2] := by
  match xs, h with
  | [a, b], h => cases h; rfl
theorem unp3_some {xs : List α} {y} (h : unp3 xs = some y) : xs = [y.1, y.2.1, y.2.2] := by
  match xs, h with
  | [a, b, c], h => cases h; rfl
theorem unp4_some {xs : List α} {y} (h : unp4 xs = some y) : xs = [y.1, y.2.1, y.2.2.1, y.2.2.2] := by
  match xs, h with
  | [a, b, c, d], h => cases h; rfl
theorem dd_unp2L {ei : β → D} {m : R (List β)} (h : DD X W Γ e (fun xs => .lst (xs.map ei)) m) : DD X W Γ e (fun p : β × β => .lst [ei p.1, ei p.2]) (m >>= fun xs => ofO (unp2 xs)) := dd_coO h _ fun x y q => by rw [unp2_some q]; rfl
theorem dd_unp3L {ei : β → D} {m : R (List β)} (h : DD X W Γ e (fun xs => .lst (xs.map ei)) m) : DD X W Γ e (fun p : β × β × β => .lst [ei p.1, ei p.2.1, ei p.2.2]) (m >>= fun xs => ofO (unp3 xs)) := dd_coO h _ fun x y q => by rw [unp3_some q]; rfl
theorem dd_unp4L {ei : β → D} {m : R (List β)} (h : DD X W Γ e (fun xs => .lst (xs.map ei)) m) : DD X W Γ e (fun p : β × β × β × β => .lst [ei p.1, ei p.2.1, ei p.2.2.1, ei p.2.2.2]) (m >>= fun xs => ofO (unp4 xs)) := dd_coO h _ fun x y q => by rw [unp4_some q]; rfl
theorem dd_unp2T {ei : β → D} {m : R (List β)} (h : DD X W Γ e (fun xs => .tup (xs.map ei)) m) : DD X W Γ e (fun p : β × β => .tup [ei p.1, ei p.2]) (m >>= fun xs => ofO (unp2 xs)) := dd_coO h _ fun x y q => by rw [unp2_some q]; rfl
theorem dd_unp3T {ei : β → D} {m : R (List β)} (h : DD X W Γ e (fun xs => .tup (xs.map ei)) m) : DD X W Γ e (fun p : β × β × β => .tup [ei p.1, ei p.2.1, ei p.2.2]) (m >>= fun xs => ofO (unp3 xs)) := dd_coO h _ fun x y q => by rw [unp3_some q]; rfl
/-- a statement that leaves by returns alone, among others -/
theorem st_rr {f : ω1 → Kd} {κ : ω → Kd} {m : R (ω1 ⊕ ω)} (h : St1 X W Γe Γ s (kSum f fun o => (κ o).rr) m) : St1 X W Γe Γ s (kSum f fun o => (κ o).ex) m := ⟨fun F M0 M H σ D st po => h F M0 M H σ D st (po.imp (fun o _ q => by
  cases o with
  | inl o => exact q
  | inr o => exact ⟨fun Γ e => (nomatch e), fun t Γ e => Kn.rt q t Γ e, fun Γ e => (nomatch e), fun Γ e => (nomatch e)⟩) fun _ z => z)⟩
theorem dd_isNO {ei : β → D} {m : R (Option β)} {j p} (hne : ∀ x v (M : Hp), Rep X.G M (ei x) v → v ≠ .non) (h : DD X W Γ e (eOpt ei) m) : DD X W Γ (.Compare e [.Is] [.Constant .none j p] pos) D.bl (m >>= fun x => .ok x.isNone) :=
  dmk ⟨_, pe_cmpR op_isN (pe_w X e) pe_non (nomark _), fun F M0 M H σ Q s po => h F M0 M H σ _ s (po.bind.imp (fun x _ k v M1 H1 g1 r1 => ⟨rfl, k _ M1 H1 g1 (by
    cases x with
    | none => rw [show v = .non from r1]; rfl
    | some x => show V.bl _ = V.bl _; rw [decide_eq_false (hne x v M1 r1)]; rfl)⟩) fun _ z => z)⟩
end
/-! ### try by a list of the classes that may come, each with what the suite does -/
def catchL {ω : Type} (l : List (Str × Bool × R ω)) (m : R ω) : R ω := catchR (fun c => (l.lookup c).map (·.1)) m fun c => ((l.lookup c).map (·.2)).getD .bad
theorem lookup_mem {β : Type} : ∀ {l : List (Str × β)} {k : Str} {q : β}, l.lookup k = some q → (k, q) ∈ l
  | [], k, q, h => nomatch h
  | (a, b) :: l, k, q, h => by
    rw [List.lookup_cons] at h
    cases e : (k == a) with
    | true =>
      rw [e] at h
      have e2 : k = a := eq_of_beq e
      cases h
      rw [e2]
      exact List.mem_cons_self
    | false =>
      rw [e] at h
      exact List.mem_cons_of_mem _ (lookup_mem h)
theorem xm_at {K : PySem.W.Frag} {mg : Str → Option Value} {c : Str} {C : Addr} {cv : Value} {b : Bool} (hg : mg c = some (.ref C)) (hx : PySem.W.exmOne K (.ref C) cv = some b) : ∀ a, mg c = some (.ref a) → PySem.W.exmOne K (.ref a) cv = some b := fun a h => by
  rw [hg] at h; cases h; exact hx
section
variable {X : Cx} {W : WX} {Γe Γ Γt : List Sl} {ω : Type} {pos : Pos} {A : List Stmt}
theorem st_tryL {x : Str} {cv : Value} {l : List (Str × Bool × R ω)} {mb : R ω} {κ : ω → Kd} {b₀ : Stmt} {suite : List Stmt} {np pos' : Pos} (hc : Names X x cv) (tk : Takes X W)
    (hb : ∀ (W' : WX) (pn : List (Addr × Obj)) (xe : Value → Shared → Prop), Takes (X.tr pn xe) W' → PassesOwn (model X.prog X.w) X.A X.env xe → Bk (X.tr pn xe) W' Γt Γ A κ mb)
    (ht : ∀ p ∈ l, ∀ a, X.mg p.1 = some (.ref a) → PySem.W.exmOne X.K (.ref a) cv = some p.2.1)
    (hsu : ∀ p ∈ l, p.2.1 = true → ∀ D, X.mg p.1 = some (.ref D) → ∀ (a : Addr) (oe : Obj) (pn : List (Addr × Obj)), Zc (.ref D) none oe → (∃ vs, oe.data = .fields vs) → Bk (X.suite a ((a, oe) :: pn)) wNo Γe Γt (b₀ :: suite) κ p.2.2) (hw : Wk Γe Γt)
    (hs : X.stack = X.env :: X.outer := by rfl) (hf : X.env.frame = some X.env.locals := by rfl) :
    St1 X W Γe Γ (.Try A [.ExceptHandler (some (.Name x np)) none (b₀ :: suite) pos'] [] [] pos) κ (catchL l mb) :=
  st_try hc tk hb (fun k b a e g => by
    cases q : l.lookup k with
    | none => rw [q] at e; cases e
    | some v =>
      rw [q] at e
      cases e
      exact ht _ (lookup_mem q) a g) (fun k D e g a oe pn z v => by
    cases q : l.lookup k with
    | none => rw [q] at e; cases e
    | some v' =>
      rw [q] at e
      have e : v'.1 = true := Option.some.inj e
      exact hsu _ (lookup_mem q) e D g a oe pn z v) hw hs hf
theorem st_tryAsL {x n : Str} {cv : Value} {l : List (Str × Bool × R ω)} {mb : R ω} {κ : ω → Kd} {b₀ : Stmt} {suite : List Stmt} {np pos' : Pos} (i : Nat) (hN : X.N.Nodup) (hc : Names X x cv) (tk : Takes X W)
    (hb : ∀ (W' : WX) (pn : List (Addr × Obj)) (xe : Value → Shared → Prop), Takes (X.tr pn xe) W' → PassesOwn (model X.prog X.w) X.A X.env xe → Bk (X.tr pn xe) W' Γt Γ A κ mb)
    (ht : ∀ p ∈ l, ∀ a, X.mg p.1 = some (.ref a) → PySem.W.exmOne X.K (.ref a) cv = some p.2.1)
    (hsu : ∀ p ∈ l, p.2.1 = true → ∀ D, X.mg p.1 = some (.ref D) → ∀ (a : Addr) (oe : Obj) (pn : List (Addr × Obj)), Zc (.ref D) none oe → (∃ vs, oe.data = .fields vs) → Bk (X.suite a ((a, oe) :: pn)) wNo Γe (Γt.set i (.pn (.ref a) (.imm .any))) (b₀ :: suite) (fun o => (κ o).rr) p.2.2) (hw : Wk Γe Γt) (hl : Nat.blt i Γt.length = true := by rfl)
    (hi : X.N[i]? = some n := by rfl) (hln : X.env.kindOf n = some .local := by rfl)
    (hs : X.stack = X.env :: X.outer := by rfl) (hf : X.env.frame = some X.env.locals := by rfl) :
    St1 X W Γe Γ (.Try A [.ExceptHandler (some (.Name x np)) (some n) (b₀ :: suite) pos'] [] [] pos) κ (catchL l mb) :=
  st_tryAs i hN hc tk hb (fun k b a e g => by
    cases q : l.lookup k with
    | none => rw [q] at e; cases e
    | some v =>
      rw [q] at e
      cases e
      exact ht _ (lookup_mem q) a g) (fun k D e g a oe pn z v => by
    cases q : l.lookup k with
    | none => rw [q] at e; cases e
    | some v' =>
      rw [q] at e
      have e : v'.1 = true := Option.some.inj e
      exact hsu _ (lookup_mem q) e D g a oe pn z v) hw hl hi hln hs hf
end
section
variable {P : Program} {w : World} {K : PySem.W.Frag} {mg : Str → Option Value} {base : Heap}
/-- a def that falls off its end: it hands back None -/
theorem fn_pureN {x qual : Str} {st : Stmt} {f : Addr} {fd : FuncData} {N ps : List Str} {k : Nat} {α : Type} {args : α → List D} {g : α → R Unit} (F : Fun K x qual st f fd) (Sc : FnScope N ps (defScope st))
    (hl : ∀ a, (args a).length = ps.length)
    (hb : ∀ (cdv : Value) (A : Around) (outer : List Env) (s : Shared) (H : Hp) (E : XK), Room k (A.deeper (PyProof.Rows.envOfC qual (defScope st) s.heap.objs.size f cdv)) → ∀ a,
      Bk (cxOf (L2.CX P w) P w K mg base N qual (defScope st) f cdv A outer s H E) (fun cls d _ H => E cls d H) (List.replicate N.length .un) ((args a).map (fun d => .ow (.imm d)) ++ List.replicate (N.length - ps.length) .un) (defBody st) (kRetN (fun _ => .imm .non) N.length) (g a)) :
    FnOk P w K mg base (L2.CX P w) (k + 1) f fd ps (SpF ⟨K, mg⟩ args (fun _ => .imm .non) g) := by
  refine F.okX Sc (fun vs H Q E h => ?_) (fun cdv A outer s H vs Q E hr h => ?_)
  · obtain ⟨a, M, _, r, _⟩ := h
    rw [r.len, hl]
  · obtain ⟨a, M, mh, r, po⟩ := h
    refine ⟨_, pss_w _ _, hb cdv A outer s H E hr a H M M H _ _ ?_ ?_⟩
    · refine ⟨[], ⟨.refl _, .refl _, mh, fun _ z => .inl z, List.nodup_nil, (fun _ z => nomatch z), fun _ z => nomatch z⟩, ?_⟩
      have e : vs.length = ps.length := by rw [r.len, hl]
      unfold L2.start
      rw [e]
      exact Sat.app (as := []) (bs := []) r.sat (Sat.uns _)
    · refine po.imp (fun x _ q => ⟨fun Γ e M' H' σ st => ?_, fun t Γ e M' H' σ v st => ?_, fun Γ e => (nomatch e), fun Γ e => (nomatch e)⟩) fun c z M' H' σ' st C hC => z M' H' ⟨st.fh, st.rel.1, st.mh, st.rel.2⟩ C hC
      · exact q .non M' H' [] ⟨st.fh, st.rel.1, st.mh, st.rel.2⟩ ⟨rfl, rfl⟩ List.nodup_nil fun _ z => nomatch z
      · have e' : (T.imm .non, List.replicate N.length Sl.un) = (t, Γ) := Option.some.inj e
        obtain ⟨e1, e2⟩ := Prod.mk.inj e'
        subst e1; subst e2
        obtain ⟨as, f, ⟨v', r', a1, a2, z1, z2, z3, z4⟩⟩ := st
        obtain ⟨z5, z6⟩ := List.cons.inj z1
        cases z5
        subst z2
        have nd := f.nd
        rw [List.nodup_append] at nd
        exact q v M' H' a1 ⟨f.fh, f.mm, f.mh, f.nw⟩ z3 nd.1 fun b hb => ⟨f.fa b (List.mem_append_left _ hb), f.ma b (List.mem_append_left _ hb)⟩
end
end Cn
/-! Cn9: what the end of a law asks of the written part -/
namespace Cn
open PySem PySem.Spec L2
theorem kit_ref {K : PySem.W.Frag} {t : Value} {C : Addr} {b : Bool} (hd : PySem.W.hasDictIn K C = true) (ht : PySem.W.typeIn K (.ref C) = some (.type "type")) (hs : PySem.W.subIn K t (.ref C) = some b) (hne : ((t == .ref C) && !b) = false) : PySem.W.kitOne K t (.ref C) = some b := by
  unfold PySem.W.kitOne
  cases e : (t == Value.ref C) with
  | true =>
    rw [e] at hne
    cases b with
    | true => rfl
    | false => cases hne
  | false =>
    obtain ⟨cd, hc, _⟩ := PySem.W.any_some hd
    have e2 : ((PySem.W.clsIn K C).isSome && PySem.W.typeIn K (.ref C) == some (.type "type")) = true := by rw [hc, ht] <;> rfl
    show PySem.W.kitCls K t (.ref C) = some b
    show (if ((PySem.W.clsIn K C).isSome && PySem.W.typeIn K (.ref C) == some (.type "type")) = true then PySem.W.subIn K t (.ref C) else none) = some b
    rw [if_pos e2]
    exact hs
theorem kit_type {K : PySem.W.Frag} {C : Addr} {T : String} {b : Bool} (hm : PySem.W.kitMeta T = true) (hs : PySem.W.subIn K (.ref C) (.type T) = some b) : PySem.W.kitOne K (.ref C) (.type T) = some b := by
  show (if PySem.W.kitMeta T = true then PySem.W.subIn K (.ref C) (.type T) else none) = some b
  rw [if_pos hm]
  exact hs
theorem exm_type {K : PySem.W.Frag} {cls : Value} {T : String} {b : Bool} (h1 : PySem.W.subIn K (.type T) (.type "BaseException") = some true) (hm : PySem.W.kitMeta T = true) (hs : PySem.W.subIn K cls (.type T) = some b) : PySem.W.exmOne K cls (.type T) = some b := by
  show (if (PySem.W.subIn K (.type T) (.type "BaseException") == some true) = true then (if PySem.W.kitMeta T = true then PySem.W.subIn K cls (.type T) else none) else none) = some b
  rw [if_pos (by rw [h1]; rfl), if_pos hm]
  exact hs
end Cn
namespace Cn
open PySem PySem.Spec L2
theorem powO_lit {i j z : Int} (h : CPow i j) (e : i ^ j.toNat = z) : powO i j = some z := by
  subst e
  exact if_pos h
end Cn
/-! CnA: more calls -/
namespace Cn
open PySem PySem.Spec L2
section
variable {X : Cx}
theorem cr_sumT (hc : X.calm = true) : CallR X (.builtin "sum") (fun vs H Q => ∃ (a : Addr) (ns : List Int), vs = [V.ref a] ∧ SqT X.K H a (ns.map V.int) ∧ Q (.int ns.sum) H) := by
  intro pins s σ H vs us Q I r h
  obtain ⟨a, ns, rfl, hs, q⟩ := h
  obtain ⟨its, rv, hl, _⟩ := I.tuple hs
  rw [Vals.ref1 r]
  have hi := rv.ints
  have hl : s.heap.IsTuple a its.toArray := hl
  obtain ⟨xs, hx⟩ := hi.allInts.items
  have hn : numsOf its.toArray.toList = ns := by rw [show its.toArray.toList = its from rfl, hi.numsOf]
  rw [hx] at hl hn
  rw [nums_intItems] at hn
  refine PySem.W.ktm_sumG (I.ok.hd hc) hl fun h' tk t' hk => ⟨.int _, H, I.kept hk, ⟨_, rfl⟩, ?_⟩
  rw [preSum_eq, List.take_of_length_le (by simp), hn]
  exact q
theorem truth_ints {prog : Program} {w : World} {A : Around} {ns : List Int} {its : List Value} (e : PyProof.Rows.IntsAre its ns) :
    TruthOf prog w A (fun i v => its.toArray[i]? = some v) (fun i => ns.getD i 0 != 0) := fun i v s Q E hv hq => by
  have hv' : its[i]? = some v := by simpa using hv
  obtain ⟨n, t, hn, rfl⟩ : ∃ n t, ns[i]? = some n ∧ v = Value.int n t := by
    clear hv hq
    induction e generalizing i with
    | nil => cases hv'
    | cons x k h ih =>
      cases i with
      | zero => cases hv'; exact ⟨x, k, rfl, rfl⟩
      | succ i => exact ih i hv'
  have hg : ns.getD i 0 = n := by rw [List.getD_eq_getElem?_getD, hn] <;> rfl
  have hq' : Q (ns.getD i 0 != 0) s := hq
  rw [hg] at hq'
  exact P.truthy_int hq'
theorem any_rangeI : ∀ ns : List Int, (List.range ns.length).any (fun i => ns.getD i 0 != 0) = ns.any (· != 0)
  | [] => rfl
  | b :: bs => by
    rw [List.length_cons, List.range_succ_eq_map, List.any_cons, List.any_map, List.any_cons, ← any_rangeI bs]
    all_goals rfl
theorem iter_anyT {prog : Program} {w : World} {A : Around} {E : Value → Shared → Prop} {s : Shared} {l : Addr} {items : Array Value} {Q : Value → Shared → Prop} (hl : s.heap.IsTuple l items)
    (h : ∀ s₂ : Shared, s₂ = { s with heap := s.heap.push { cls := .type "tuple_iterator", data := .fields #[.ref l, .int 0 0] } } →
      (s₂.heap.IsTupleIter s.heap.objs.size l 0 ∧ s₂.heap.IsTuple l items) → l ≠ s.heap.objs.size → Q (.ref s.heap.objs.size) s₂) : wpAny (model prog w) A (pyIter (.ref l)) Q E s := by
  have hlt : l < s.heap.objs.size := by obtain ⟨_, e, _⟩ := hl; exact Heap.lt_size e
  exact wpAny_pyIter_tuple hl (h _ rfl ⟨⟨_, Heap.get?_push_size _ rfl, rfl, rfl⟩, hl.push _⟩ (Nat.ne_of_lt hlt))
theorem cr_anyT (hc : X.calm = true) : CallR X (.builtin "any") (fun vs H Q => ∃ (a : Addr) (ns : List Int), vs = [V.ref a] ∧ SqT X.K H a (ns.map V.int) ∧ Q (.bl (ns.any (· != 0))) H) := by
  intro pins s σ H vs us Q I r h
  obtain ⟨a, bs, rfl, hs, q⟩ := h
  obtain ⟨its, rv, hl, _⟩ := I.tuple hs
  rw [Vals.ref1 r]
  have hb := rv.ints
  have hl : s.heap.IsTuple a its.toArray := hl
  refine call_any_walk (iter_anyT hl fun s₂ e2 st hne => ?_)
  subst e2
  refine ⟨_, _, _, _, _, _, _, rfl, Walks.tuple (A := X.A.in1) (I.ok.hd hc) _ a hne its.toArray, st, truth_ints hb, fun h' tk hk => ?_⟩
  refine ⟨.bl _, H, I.kept fun b o eo => hk b o (fun hmem => ?_) (Heap.get?_push_of_some _ eo), ?_, q⟩
  · rcases List.mem_cons.mp hmem with e1 | hmem
    · exact absurd (e1 ▸ Heap.lt_size eo) (Nat.lt_irrefl _)
    · cases hmem
  · show Value.bool _ = Value.bool _
    rw [← any_rangeI, List.size_toArray, ← hb.length]
theorem cr_anyI (hc : X.calm = true) : CallR X (.builtin "any") (fun vs H Q => ∃ (a : Addr) (ns : List Int), vs = [V.ref a] ∧ SqL X.K H a (ns.map V.int) ∧ Q (.bl (ns.any (· != 0))) H) := by
  intro pins s σ H vs us Q I r h
  obtain ⟨a, bs, rfl, hs, q⟩ := h
  obtain ⟨its, rv, hl, _⟩ := I.list hs
  rw [Vals.ref1 r]
  have hb := rv.ints
  refine call_any_walk (iter_any hl.isList fun s₂ e2 st hne => ?_)
  subst e2
  refine ⟨_, _, _, _, _, _, _, rfl, Walks.list (A := X.A.in1) (I.ok.hd hc) _ a hne its.toArray, st, truth_ints hb, fun h' tk hk => ?_⟩
  refine ⟨.bl _, H, I.kept fun b o eo => hk b o (fun hmem => ?_) (Heap.get?_push_of_some _ eo), ?_, q⟩
  · rcases List.mem_cons.mp hmem with e1 | hmem
    · exact absurd (e1 ▸ Heap.lt_size eo) (Nat.lt_irrefl _)
    · cases hmem
  · show Value.bool _ = Value.bool _
    rw [← any_rangeI, List.size_toArray, ← hb.length]
theorem cr_max3 (hc : X.calm = true) : CallR X (.builtin "max") (fun xs H Q => ∃ i j k, xs = [.int i, .int j, .int k] ∧ Q (.int (if j > i then (if k > j then k else j) else (if k > i then k else i))) H) := by
  intro pins s σ H vs us Q I r h
  obtain ⟨i, j, k, rfl, q⟩ := h
  obtain ⟨t1, t2, t3, rfl⟩ : ∃ t1 t2 t3, us = [Value.int i t1, Value.int j t2, Value.int k t3] := by
    cases r with
    | cons r t =>
      obtain ⟨t1, rfl⟩ := r
      obtain ⟨t2, t3, rfl⟩ := Vals.int2 t
      exact ⟨t1, t2, t3, rfl⟩
  refine max_three_ints (I.ok.hd hc) fun h' tk hk => ⟨_, H, I.kept hk, ?_, q⟩
  split
  · split
    · exact ⟨_, rfl⟩
    · exact ⟨_, rfl⟩
  · split
    · exact ⟨_, rfl⟩
    · exact ⟨_, rfl⟩
end
section
variable {X : Cx} {W : WX} {Γe Γ Γt : List Sl} {a b c e tg elt iter : Expr} {es : List Expr} {α β γ ω ω1 : Type} {pos : Pos} {s : Stmt} {rest ss A B : List Stmt}
theorem dd_sumT {m : R (List Int)} {p : Pos} (hc : X.calm = true) (h : DD X W Γ e (fun xs => .tup (xs.map D.int)) m) (hm : X.mg "sum" = none) (hg : Gl X "sum" := by rfl) (hs : starEach [e] X.env = (false, eval e X.env) :: starEach [] X.env := by exact star_cons rfl) : DD X W Γ (.Call (.Name "sum" p) [e] [] pos) D.int (m >>= fun xs => .ok xs.sum) :=
  dmk ⟨_, pe_callB (cr_sumT hc) hg hm (by decide +kernel) (pa_cons (pe_w X e) pa_nil (hs := hs)) (he := hs), fun F M0 M H σ Q s po => h F M0 M H σ _ s (po.bind.imp (fun xs _ k v M1 H1 g1 r1 => by
    obtain ⟨a, vs, rfl, hl, r1⟩ := r1
    exact ⟨a, xs, rfl, by rw [← reps_ints r1]; exact same_sqt g1.mh hl, k _ M1 H1 g1 rfl⟩) fun _ z => z)⟩
theorem dd_anyT {m : R (List Int)} {p : Pos} (hc : X.calm = true) (h : DD X W Γ e (fun xs => .tup (xs.map D.int)) m) (hm : X.mg "any" = none) (hg : Gl X "any" := by rfl) (hs : starEach [e] X.env = (false, eval e X.env) :: starEach [] X.env := by exact star_cons rfl) : DD X W Γ (.Call (.Name "any" p) [e] [] pos) D.bl (m >>= fun xs => .ok (xs.any (· != 0))) :=
  dmk ⟨_, pe_callB (cr_anyT hc) hg hm (by decide +kernel) (pa_cons (pe_w X e) pa_nil (hs := hs)) (he := hs), fun F M0 M H σ Q s po => h F M0 M H σ _ s (po.bind.imp (fun xs _ k v M1 H1 g1 r1 => by
    obtain ⟨a, vs, rfl, hl, r1⟩ := r1
    exact ⟨a, xs, rfl, by rw [← reps_ints r1]; exact same_sqt g1.mh hl, k _ M1 H1 g1 rfl⟩) fun _ z => z)⟩
theorem dd_anyI {m : R (List Int)} {p : Pos} (hc : X.calm = true) (h : DL X W Γ e (fun xs => xs.map D.int) m) (hm : X.mg "any" = none) (hg : Gl X "any" := by rfl) (hs : starEach [e] X.env = (false, eval e X.env) :: starEach [] X.env := by exact star_cons rfl) : DD X W Γ (.Call (.Name "any" p) [e] [] pos) D.bl (m >>= fun xs => .ok (xs.any (· != 0))) :=
  dmk ⟨_, pe_callB (cr_anyI hc) hg hm (by decide +kernel) (pa_cons (pe_w X e) pa_nil (hs := hs)) (he := hs), fun F M0 M H σ Q s po => h F M0 M H σ _ s (po.bind.imp (fun xs _ k a vs M1 H1 g1 hl r1 => ⟨a, xs, rfl, by rw [← reps_ints r1]; exact hl, k _ M1 H1 g1 rfl⟩) fun _ z => z)⟩
theorem dd_three_ints {ma mb mc : R Int} {n : Str} {id : String} {p : Pos} {f : Int → Int → Int → Int} (hr : CallR X (.builtin id) (fun xs H Q => ∃ i j k, xs = [.int i, .int j, .int k] ∧ Q (.int (f i j k)) H)) (ha : DD X W Γ a D.int ma) (hb : DD X W Γ b D.int mb) (hc : DD X W Γ c D.int mc) (hm : X.mg n = none) (hv : bootBuiltins n = some (.builtin id)) (hg : Gl X n := by rfl) (hn : n ≠ "__name__" := by decide) (hdb : (n == ("__debug__" : Str)) = false := by decide)
    (hs : starEach [a, b, c] X.env = (false, eval a X.env) :: starEach [b, c] X.env := by exact star_cons rfl) (hs2 : starEach [b, c] X.env = (false, eval b X.env) :: starEach [c] X.env := by exact star_cons rfl) (hs3 : starEach [c] X.env = (false, eval c X.env) :: starEach [] X.env := by exact star_cons rfl) (hpl : (backTo pos (starEach [b, c] X.env)).any (·.1) = false := by exact star_none rfl) : DD X W Γ (.Call (.Name n p) [a, b, c] [] pos) D.int (ma >>= fun x => mb >>= fun y => mc >>= fun z => .ok (f x y z)) := by
  refine dmk ⟨_, pe_callB hr hg hm hv (pa_cons (pe_w X a) (pa_cons (pe_w X b) (pa_cons (pe_w X c) pa_nil (hs := hs3)) (hs := hs2)) (hs := hs)) (hn := hn) (hdb := hdb) (he := hs) (hpl := hpl), fun F M0 M H σ Q s po => ha F M0 M H σ _ s (po.bind.imp (fun x _ k v M1 H1 g1 r1 => hb F M0 M1 H1 σ _ (s.grow g1) (k.bind.imp (fun y _ k w M2 H2 g2 r2 => hc F M0 M2 H2 σ _ ((s.grow g1).grow g2) (k.bind.imp (fun z _ k u M3 H3 g3 r3 => ⟨x, y, z, by rw [show v = .int x from r1, show w = .int y from r2, show u = .int z from r3], k _ M3 H3 ((g1.trans g2).trans g3) rfl⟩) fun c z M' H' g => z M' H' ((g1.trans g2).trans g))) fun c z M' H' g => z M' H' (g1.trans g))) fun _ z => z)⟩
/-- a tuple of ints of the module's -/
def GTup (K : PySem.W.Frag) (a : Addr) (ns : List Int) : Prop := ∃ (o : Obj) (its : Array Value) (n : Nat), K.lookup a = some o ∧ o.cls = .type "tuple" ∧ o.data = .seq its n ∧ its.size ≤ sizeLine ∧ Vals (ns.map V.int) its.toList
theorem dd_gtup {n : Str} {ns : List Int} {ad : Addr} {p : Pos} (hm : X.mg n = some (.ref ad)) (h : GTup X.K ad ns) (hg : Gl X n := by rfl) (hd : (n == ("__debug__" : Str)) = false := by decide) : DD X W Γ (.Name n p) (fun xs => .tup (xs.map D.int)) (.ok ns) :=
  dmk ⟨_, pe_glob (v := .ref ad) hg hm rfl hd, fun F M0 M H σ Q s po => po (.ref ad) M H (.refl s.mh) ⟨ad, _, rfl, .inr h, ints_reps ns⟩⟩
/-- a op b op' c of ints -/
theorem chain_int {f g : Int → Int → Bool} {ma mb mc : R Int} {F M0 M H : Hp} {σ : St} {Q : VK} (ha : DD X W Γ a D.int ma) (hb : DD X W Γ b D.int mb) (hc : DD X W Γ c D.int mc) (s : S X.G F M0 M H σ Γ)
    (po : Po (ma >>= fun x => mb >>= fun y => if f x y then mc >>= fun z => .ok (g y z) else .ok false) (fun x => WD X.G M H (D.bl x) Q) (fun c => ∀ M' H', Gr M H M' H' → Er X.G W c σ H')) :
    tChain (rI0 fun i j => .bl (f i j)) (rI0 fun i j => .bl (g i j)) (wE X a) (wE X b) (wE X c) σ H Q := by
  refine ha F M0 M H σ _ s (po.bind.imp (fun x _ k v M1 H1 g1 r1 => ?_) fun _ z => z)
  refine hb F M0 M1 H1 σ _ (s.grow g1) (k.bind.imp (fun y _ k w M2 H2 g2 r2 => ?_) fun c z M' H' g => z M' H' (g1.trans g))
  refine ⟨x, y, r1, r2, f x y, rfl, ?_⟩
  cases e : f x y with
  | false =>
    rw [e] at k
    exact k _ M2 H2 (g1.trans g2) rfl
  | true =>
    rw [e] at k
    refine hc F M0 M2 H2 σ _ ((s.grow g1).grow g2) ((show Po (mc >>= fun z => .ok (g y z)) _ _ from k).bind.imp (fun z _ k u M3 H3 g3 r3 => ?_) fun c z M' H' g => z M' H' ((g1.trans g2).trans g))
    exact ⟨y, z, r2, r3, k _ M3 H3 ((g1.trans g2).trans g3) rfl⟩
theorem dd_chain {op op' : CmpOp} {f g : Int → Int → Bool} {ma mb mc : R Int} (ho : OpR X (compareOp op) (rI0 fun i j => .bl (f i j))) (ho' : OpR X (compareOp op') (rI0 fun i j => .bl (g i j))) (ha : DD X W Γ a D.int ma) (hb : DD X W Γ b D.int mb) (hc : DD X W Γ c D.int mc) (hm : lastMarks [op, op'] [b, c] = false := by with_unfolding_all rfl) :
    DD X W Γ (.Compare a [op, op'] [b, c] pos) D.bl (ma >>= fun x => mb >>= fun y => if f x y then mc >>= fun z => .ok (g y z) else .ok false) :=
  dmk ⟨_, pe_chain ho ho' (pe_w X a) (pe_w X b) (pe_w X c) hm, fun F M0 M H σ Q s po => chain_int ha hb hc s po⟩
theorem dt_chain {op op' : CmpOp} {f g : Int → Int → Bool} {ma mb mc : R Int} (ho : OpR X (compareOp op) (rI0 fun i j => .bl (f i j))) (ho' : OpR X (compareOp op') (rI0 fun i j => .bl (g i j))) (ha : DD X W Γ a D.int ma) (hb : DD X W Γ b D.int mb) (hc : DD X W Γ c D.int mc) (hm : lastMarks [op, op'] [b, c] = false := by with_unfolding_all rfl) :
    DT X W Γ (.Compare a [op, op'] [b, c] pos) (ma >>= fun x => mb >>= fun y => if f x y then mc >>= fun z => .ok (g y z) else .ok false) :=
  tmk ⟨_, pt_chain ho ho' (pe_w X a) (pe_w X b) (pe_w X c) hm, fun F M0 M H σ Q s po => chain_int ha hb hc s (po.imp (fun x _ k v M' H' g q => ⟨x, q, k M' H' g⟩) fun _ z => z)⟩
end
end Cn
namespace Cn
open PySem PySem.Spec L2
section
variable {X : Cx} {W : WX} {Γe Γ Γt : List Sl} {a b c e tg elt iter : Expr} {es : List Expr} {α β γ ω ω1 : Type} {pos : Pos} {s : Stmt} {rest ss A B : List Stmt}
/-- len of a tuple of a known length -/
theorem dd_lenP {et : α → D} {m : R α} {p : Pos} (h : DD X W Γ e et m) (ds : α → List D) (n : Nat) (hm : X.mg "len" = none) (h1 : ∀ x, et x = .tup (ds x) := by intro _; rfl) (h2 : ∀ x, (ds x).length = n := by intro _; rfl) (hg : Gl X "len" := by rfl) (hs : starEach [e] X.env = (false, eval e X.env) :: starEach [] X.env := by exact star_cons rfl) : DD X W Γ (.Call (.Name "len" p) [e] [] pos) D.int (m >>= fun _ => .ok (n : Int)) :=
  dmk ⟨_, pe_callB call_len_seq hg hm boot_len (pa_cons (pe_w X e) pa_nil (hs := hs)) (he := hs), fun F M0 M H σ Q s po => h F M0 M H σ _ s (po.bind.imp (fun x _ k v M1 H1 g1 r1 => by
    rw [h1 x] at r1
    obtain ⟨a, vs, rfl, hl, r1⟩ := r1
    exact ⟨a, vs, rfl, .inr (same_sqt g1.mh hl), k _ M1 H1 g1 (by rw [r1.len, h2 x]; rfl)⟩) fun _ z => z)⟩
end
end Cn
/-! Cm: loops of the mirrors, in plain Lean -/
namespace Cn
open PySem PySem.Spec L2
theorem ofO_some {α : Type} {x : α} : ofO (some x) = .ok x := by
  have : ∀ o : Option α, o = some x → ofO o = .ok x := fun o h => by rw [h]; rfl
  exact this _ (Eq.refl _)
theorem forS_nil {α S : Type} {f : α → S → R S} {s : S} : forS f [] s = .ok s := rfl
theorem forS_cons {α S : Type} {f : α → S → R S} {x : α} {xs : List α} {s : S} : forS f (x :: xs) s = f x s >>= fun s => forS f xs s := rfl
theorem forS_ind {α S : Type} {f : α → S → R S} {xs : List α} {s : S} (I : Nat → S → Prop) (h0 : I 0 s) (h : ∀ i (hi : i < xs.length) s, I i s → ∃ s', f xs[i] s = .ok s' ∧ I (i + 1) s') : ∃ s', forS f xs s = .ok s' ∧ I xs.length s' := by
  induction xs generalizing s I with
  | nil => exact ⟨s, rfl, h0⟩
  | cons x xs ih =>
    obtain ⟨s1, e1, i1⟩ := h 0 (Nat.succ_pos _) s h0
    obtain ⟨s2, e2, i2⟩ := ih (s := s1) (fun i s => I (i + 1) s) i1 fun i hi s q => h (i + 1) (Nat.succ_lt_succ hi) s q
    refine ⟨s2, ?_, i2⟩
    show (f x s >>= fun s => forS f xs s) = _
    rw [show f x s = .ok s1 from e1]
    exact e2
/-- .. each round leaves the loop going -/
theorem forX_ind {α S ω : Type} {f : α → S → R (Lo S ω)} {xs : List α} {s : S} (I : Nat → S → Prop) (h0 : I 0 s) (h : ∀ i (hi : i < xs.length) s, I i s → ∃ s', f xs[i] s = .ok (.nx s') ∧ I (i + 1) s') : ∃ s', forX f xs s = .ok (.inl s') ∧ I xs.length s' := by
  induction xs generalizing s I with
  | nil => exact ⟨s, rfl, h0⟩
  | cons x xs ih =>
    obtain ⟨s1, e1, i1⟩ := h 0 (Nat.succ_pos _) s h0
    obtain ⟨s2, e2, i2⟩ := ih (s := s1) (fun i s => I (i + 1) s) i1 fun i hi s q => h (i + 1) (Nat.succ_lt_succ hi) s q
    refine ⟨s2, ?_, i2⟩
    show (f x s >>= _) = _
    rw [show f x s = .ok (.nx s1) from e1]
    exact e2
theorem forX_nx {α S ω : Type} {f : α → S → R (Lo S ω)} {xs : List α} {s : S} (h : ∀ x ∈ xs, f x s = .ok (.nx s)) : forX f xs s = .ok (.inl s) := by
  induction xs with
  | nil => rfl
  | cons x xs ih =>
    show (f x s >>= _) = _
    rw [h x List.mem_cons_self]
    exact ih fun y hy => h y (List.mem_cons_of_mem _ hy)
theorem whileS_ind {S : Type} {mc : S → R Bool} {mb : S → R S} {Q : S → Prop} (I : Nat → S → Prop) (h : ∀ n s, I n s → (mc s = .ok false ∧ Q s) ∨ (mc s = .ok true ∧ ∃ s' n', n' < n ∧ mb s = .ok s' ∧ I n' s')) {n : Nat} {s : S} (h0 : I n s) : ∃ s', whileS mc mb s = .ok s' ∧ Q s' := by
  induction n using Nat.strongRecOn generalizing s with
  | ind n ih =>
    rw [whileS_eq]
    rcases h n s h0 with ⟨e, q⟩ | ⟨e, s', n', l, e2, q⟩
    · rw [e]; exact ⟨s, rfl, q⟩
    · rw [e]
      show ∃ s2, (if true = true then (mb s >>= fun s => whileS mc mb s) else .ok s) = .ok s2 ∧ Q s2
      rw [if_pos rfl, e2]
      exact ih n' l q
theorem whileX_ind {S ω : Type} {mc : S → R Bool} {mb : S → R (Lo S ω)} {Q : S ⊕ ω → Prop} (I : Nat → S → Prop) (h : ∀ n s, I n s → (mc s = .ok false ∧ Q (.inl s)) ∨ (mc s = .ok true ∧ ((∃ s' n', n' < n ∧ mb s = .ok (.nx s') ∧ I n' s') ∨ (∃ s', mb s = .ok (.bk s') ∧ Q (.inl s')) ∨ ∃ o, mb s = .ok (.ex o) ∧ Q (.inr o)))) {n : Nat} {s : S} (h0 : I n s) : ∃ o, whileX mc mb s = .ok o ∧ Q o := by
  induction n using Nat.strongRecOn generalizing s with
  | ind n ih =>
    rw [whileX_eq]
    rcases h n s h0 with ⟨e, q⟩ | ⟨e, ⟨s', n', l, e2, q⟩ | ⟨s', e2, q⟩ | ⟨o, e2, q⟩⟩
    · rw [e]; exact ⟨_, rfl, q⟩
    · rw [e, bind_ok, if_pos rfl, e2, bind_ok]
      exact ih n' l q
    · rw [e, bind_ok, if_pos rfl, e2, bind_ok]
      exact ⟨_, rfl, q⟩
    · rw [e, bind_ok, if_pos rfl, e2, bind_ok]
      exact ⟨_, rfl, q⟩
theorem forS_to {α S T : Type} {f : α → S → R S} {xs : List α} {s : S} {k : S → R T} {r : R T} (I : Nat → S → Prop) (h0 : I 0 s) (h : ∀ i (hi : i < xs.length) s, I i s → ∃ s', f xs[i] s = .ok s' ∧ I (i + 1) s') (hk : ∀ s, I xs.length s → k s = r) : (forS f xs s >>= k) = r := by
  obtain ⟨s', e, i⟩ := forS_ind I h0 h
  rw [e, bind_ok]
  exact hk s' i
theorem forX_to {α S T ω : Type} {f : α → S → R (Lo S ω)} {xs : List α} {s : S} {k : S ⊕ ω → R T} {r : R T} (I : Nat → S → Prop) (h0 : I 0 s) (h : ∀ i (hi : i < xs.length) s, I i s → ∃ s', f xs[i] s = .ok (.nx s') ∧ I (i + 1) s') (hk : ∀ s, I xs.length s → k (.inl s) = r) : (forX f xs s >>= k) = r := by
  obtain ⟨s', e, i⟩ := forX_ind I h0 h
  rw [e, bind_ok]
  exact hk s' i
/-- a loop that changes nothing and leaves for no item -/
theorem forX_pass {α S T ω : Type} {f : α → S → R (Lo S ω)} {xs : List α} {s : S} {k : S ⊕ ω → R T} {r : R T} (h : ∀ x ∈ xs, f x s = .ok (.nx s)) (hk : k (.inl s) = r) : (forX f xs s >>= k) = r := by
  rw [forX_nx h, bind_ok]
  exact hk
theorem whileS_to {S T : Type} {mc : S → R Bool} {mb : S → R S} {k : S → R T} {r : R T} (I : Nat → S → Prop) (n : Nat) {s : S} (h0 : I n s) (h : ∀ n s, I n s → (mc s = .ok false ∧ k s = r) ∨ (mc s = .ok true ∧ ∃ s' n', n' < n ∧ mb s = .ok s' ∧ I n' s')) : (whileS mc mb s >>= k) = r := by
  obtain ⟨s', e, i⟩ := whileS_ind (Q := fun s => k s = r) I h h0
  rw [e, bind_ok]
  exact i
theorem whileX_to {S T ω : Type} {mc : S → R Bool} {mb : S → R (Lo S ω)} {k : S ⊕ ω → R T} {r : R T} (I : Nat → S → Prop) (n : Nat) {s : S} (h0 : I n s) (h : ∀ n s, I n s → (mc s = .ok false ∧ k (.inl s) = r) ∨ (mc s = .ok true ∧ ((∃ s' n', n' < n ∧ mb s = .ok (.nx s') ∧ I n' s') ∨ (∃ s', mb s = .ok (.bk s') ∧ k (.inl s') = r) ∨ ∃ o, mb s = .ok (.ex o) ∧ k (.inr o) = r))) : (whileX mc mb s >>= k) = r := by
  obtain ⟨s', e, i⟩ := whileX_ind (Q := fun s => k s = r) I h h0
  rw [e, bind_ok]
  exact i
theorem forS_ex {α S T : Type} {f : α → S → R S} {xs : List α} {s : S} {k : S → R T} {Q : T → Prop} (I : Nat → S → Prop) (h0 : I 0 s) (h : ∀ i (hi : i < xs.length) s, I i s → ∃ s', f xs[i] s = .ok s' ∧ I (i + 1) s') (hk : ∀ s, I xs.length s → ∃ r, k s = .ok r ∧ Q r) : ∃ r, (forS f xs s >>= k) = .ok r ∧ Q r := by
  obtain ⟨s', e, i⟩ := forS_ind I h0 h
  rw [e, bind_ok]
  exact hk s' i
theorem irange_nat (n : Nat) : irange 0 (n : Int) = (List.range n).map fun i : Nat => (i : Int) := by
  unfold irange
  rw [show ((n : Int) - 0).toNat = n by omega]
  refine List.map_congr_left fun i _ => ?_
  omega
theorem irange_lenN (n : Nat) : (irange 0 (n : Int)).length = n := by rw [irange_len]; omega
theorem irange_ix {n : Nat} {i : Nat} (h : i < (irange 0 (n : Int)).length) : (irange 0 (n : Int))[i] = (i : Int) := by
  have := irange_get (List.getElem?_eq_getElem h)
  omega
theorem rangeO_nat {n : Nat} (h : n < 4611686018427387904) : rangeO 0 (n : Int) = some (irange 0 (n : Int)) := by
  unfold rangeO
  rw [if_pos (by rw [Bool.and_eq_true, small_iff, small_iff]; omega)]
theorem atI_nat' {α : Type} {xs : List α} {i : Nat} (h : i < xs.length) : atI xs (i : Int) = some xs[i] := by rw [L2.atI_nat (j := i) (List.getElem?_eq_getElem h)]
theorem modO_pos {i j : Int} (h : 0 < j) : modO i j = some (i % j) := by unfold modO; rw [if_pos h]
theorem divO_pos {i j : Int} (h : 0 < j) (h2 : j < 1073741824) : divO i j = some (i / j) := by unfold divO; rw [if_pos ⟨h, h2⟩]
theorem appO_ok {α : Type} {xs : List α} {x : α} (h : xs.length < 16777216) : appO xs x = some (xs ++ [x]) := by unfold appO; rw [if_pos h]
theorem shlO_ok {i : Int} {j : Nat} (h : 0 ≤ i) (h2 : i < 18446744073709551616) (hj : j ≤ 1000000) : shlO i (j : Int) = some (i * 2 ^ j) := by unfold shlO; rw [if_pos ⟨by omega, by omega, by omega⟩]; rfl
end Cn
/-! Ce: == of data, in plain Lean; slices, sums of lists -/
namespace Cn
open PySem PySem.Spec L2
/-- a kind of data whose == is plain equality -/
structure Eqd {α : Type} [DecidableEq α] (e : α → D) (P : α → Prop) (n : Nat) : Prop where
  can : ∀ x, P x → PyData.canLay0 (toPy (e x)) = true
  dep : ∀ x, PyData.depth (toPy (e x)) ≤ n
  eqv : ∀ x y, PyData.eqv (toPy (e x)) (toPy (e y)) = decide (x = y)
theorem eqd_int : Eqd D.int (fun _ => True) 0 := ⟨fun _ _ => rfl, fun _ => Nat.le_refl 0, fun x y => by
  show (x == y) = _
  rw [Bool.eq_iff_iff, beq_iff_eq, decide_eq_true_iff]⟩
theorem eqd_bl : Eqd D.bl (fun _ => True) 0 := ⟨fun _ _ => rfl, fun _ => Nat.le_refl 0, fun x y => by cases x <;> cases y <;> rfl⟩
theorem eqd_str : Eqd D.str (fun x => PyData.strOk x = true) 0 := ⟨fun _ h => h, fun _ => Nat.le_refl 0, fun x y => by
  show (x == y) = _
  rw [Bool.eq_iff_iff, beq_iff_eq, decide_eq_true_iff]⟩
section
variable {α : Type} [DecidableEq α] {e : α → D} {P : α → Prop} {n : Nat}
theorem all_can (h : Eqd e P n) : ∀ xs : List α, (∀ x ∈ xs, P x) → PyData.canLayAll0 (toPys (xs.map e)) = true
  | [], _ => rfl
  | x :: xs, hx => by
    show (PyData.canLay0 (toPy (e x)) && PyData.canLayAll0 (toPys (xs.map e))) = true
    rw [h.can x (hx x List.mem_cons_self), all_can h xs fun y hy => hx y (List.mem_cons_of_mem _ hy)]
    rfl
theorem all_dep (h : Eqd e P n) : ∀ xs : List α, PyData.depthAll (toPys (xs.map e)) ≤ n
  | [] => Nat.zero_le _
  | x :: xs => by
    show max (PyData.depth (toPy (e x))) (PyData.depthAll (toPys (xs.map e))) ≤ n
    exact Nat.max_le.mpr ⟨h.dep x, all_dep h xs⟩
theorem all_eqv (h : Eqd e P n) : ∀ xs ys : List α, PyData.eqvAll (toPys (xs.map e)) (toPys (ys.map e)) = decide (xs = ys)
  | [], [] => rfl
  | [], _ :: _ => rfl
  | _ :: _, [] => rfl
  | x :: xs, y :: ys => by
    show (PyData.eqv (toPy (e x)) (toPy (e y)) && PyData.eqvAll (toPys (xs.map e)) (toPys (ys.map e))) = _
    rw [h.eqv x y, all_eqv h xs ys, Bool.eq_iff_iff, Bool.and_eq_true, decide_eq_true_iff, decide_eq_true_iff, decide_eq_true_iff, List.cons.injEq]
theorem eqd_tup (h : Eqd e P n) : Eqd (fun xs : List α => D.tup (xs.map e)) (fun xs => ∀ x ∈ xs, P x) (n + 1) :=
  ⟨fun xs hx => all_can h xs hx, fun xs => Nat.succ_le_succ (all_dep h xs), fun xs ys => all_eqv h xs ys⟩
theorem eqd_lst (h : Eqd e P n) : Eqd (fun xs : List α => D.lst (xs.map e)) (fun xs => ∀ x ∈ xs, P x) (n + 1) :=
  ⟨fun xs hx => all_can h xs hx, fun xs => Nat.succ_le_succ (all_dep h xs), fun xs ys => all_eqv h xs ys⟩
end
section
variable {α β γ : Type} [DecidableEq α] [DecidableEq β] [DecidableEq γ] {e : α → D} {f : β → D} {g : γ → D} {P : α → Prop} {Q : β → Prop} {S : γ → Prop} {n : Nat}
theorem eqd_p2 (h1 : Eqd e P n) (h2 : Eqd f Q n) : Eqd (fun p : α × β => D.tup [e p.1, f p.2]) (fun p => P p.1 ∧ Q p.2) (n + 1) :=
  ⟨fun p hp => by
    show (PyData.canLay0 (toPy (e p.1)) && (PyData.canLay0 (toPy (f p.2)) && true)) = true
    rw [h1.can _ hp.1, h2.can _ hp.2]; rfl, fun p => by
    show max (PyData.depth (toPy (e p.1))) (max (PyData.depth (toPy (f p.2))) 0) + 1 ≤ n + 1
    have a := h1.dep p.1
    have b := h2.dep p.2
    omega, fun p q => by
    show (PyData.eqv (toPy (e p.1)) (toPy (e q.1)) && (PyData.eqv (toPy (f p.2)) (toPy (f q.2)) && true)) = _
    rw [h1.eqv, h2.eqv, Bool.eq_iff_iff]
    simp [Prod.ext_iff]⟩
theorem eqd_p3 (h1 : Eqd e P n) (h2 : Eqd f Q n) (h3 : Eqd g S n) : Eqd (fun p : α × β × γ => D.tup [e p.1, f p.2.1, g p.2.2]) (fun p => P p.1 ∧ Q p.2.1 ∧ S p.2.2) (n + 1) :=
  ⟨fun p hp => by
    show (PyData.canLay0 (toPy (e p.1)) && (PyData.canLay0 (toPy (f p.2.1)) && (PyData.canLay0 (toPy (g p.2.2)) && true))) = true
    rw [h1.can _ hp.1, h2.can _ hp.2.1, h3.can _ hp.2.2]; rfl, fun p => by
    show max (PyData.depth (toPy (e p.1))) (max (PyData.depth (toPy (f p.2.1))) (max (PyData.depth (toPy (g p.2.2))) 0)) + 1 ≤ n + 1
    have a := h1.dep p.1
    have b := h2.dep p.2.1
    have c := h3.dep p.2.2
    omega, fun p q => by
    show (PyData.eqv (toPy (e p.1)) (toPy (e q.1)) && (PyData.eqv (toPy (f p.2.1)) (toPy (f q.2.1)) && (PyData.eqv (toPy (g p.2.2)) (toPy (g q.2.2)) && true))) = _
    rw [h1.eqv, h2.eqv, h3.eqv, Bool.eq_iff_iff]
    simp [Prod.ext_iff]⟩
end
theorem Eqd.weak {α : Type} [DecidableEq α] {e : α → D} {P : α → Prop} {n m : Nat} (h : Eqd e P n) (l : n ≤ m) : Eqd e P m := ⟨h.can, fun x => Nat.le_trans (h.dep x) l, h.eqv⟩
theorem Eqd.eqO {α : Type} [DecidableEq α] {e : α → D} {P : α → Prop} {n : Nat} (h : Eqd e P n) (l : n ≤ 64) {x y : α} (hx : P x) (hy : P y) : Cn.eqO (e x) (e y) = some (decide (x = y)) := by
  unfold Cn.eqO SeqAt.shaped
  rw [h.can x hx, h.can y hy, decide_eq_true (Nat.le_trans (h.dep x) l), decide_eq_true (Nat.le_trans (h.dep y) l), h.eqv x y]
  rfl
theorem eqO_ints (xs ys : List Int) : eqO (.lst (xs.map D.int)) (.lst (ys.map D.int)) = some (decide (xs = ys)) := (eqd_lst eqd_int).eqO (by decide) (fun _ _ => trivial) (fun _ _ => trivial)
theorem eqO_tints (xs ys : List Int) : eqO (.tup (xs.map D.int)) (.tup (ys.map D.int)) = some (decide (xs = ys)) := (eqd_tup eqd_int).eqO (by decide) (fun _ _ => trivial) (fun _ _ => trivial)
/-! ### slices, sums of lists -/
section
variable {α β : Type}
theorem cut_to (xs : List α) (n : Nat) : cutL xs none (some (n : Int)) = xs.take n := by
  unfold cutL
  rw [HT.sIx_nat, HT.sIx_none, List.drop_zero, Nat.sub_zero]
  rcases Nat.le_total n xs.length with h | h
  · rw [Nat.min_eq_left h]
  · rw [Nat.min_eq_right h, List.take_of_length_le (Nat.le_refl _), List.take_of_length_le h]
theorem cut_from (xs : List α) (n : Nat) : cutL xs (some (n : Int)) none = xs.drop n := by
  unfold cutL
  rw [HT.sIx_nat, HT.sIx_none]
  rcases Nat.le_total n xs.length with h | h
  · rw [Nat.min_eq_left h, List.take_of_length_le (by rw [List.length_drop]; omega)]
  · rw [Nat.min_eq_right h, List.drop_of_length_le (Nat.le_refl _), List.drop_of_length_le h]; simp
theorem cut_mid (xs : List α) (m n : Nat) : cutL xs (some (m : Int)) (some (n : Int)) = (xs.take n).drop m := by
  unfold cutL
  rw [HT.sIx_nat, HT.sIx_nat, List.drop_take]
  rcases Nat.le_total m xs.length with h | h
  · rw [Nat.min_eq_left h]
    rcases Nat.le_total n xs.length with h2 | h2
    · rw [Nat.min_eq_left h2]
    · rw [Nat.min_eq_right h2, List.take_of_length_le (by rw [List.length_drop]; omega), List.take_of_length_le (by rw [List.length_drop]; omega)]
  · rw [Nat.min_eq_right h, List.drop_of_length_le (Nat.le_refl _), List.drop_of_length_le h]; simp
theorem cut_all (xs : List α) : cutL xs none none = xs := by
  unfold cutL
  rw [HT.sIx_none, HT.sIx_none, List.drop_zero, Nat.sub_zero, List.take_of_length_le (Nat.le_refl _)]
theorem catO_ok {xs ys : List α} (h : xs.length + ys.length ≤ 16777216) : catO xs ys = some (xs ++ ys) := if_pos h
theorem repO_one {x : α} {n : Nat} (h : n ≤ 16777216) : repO [x] (n : Int) = some (List.replicate n x) := by
  unfold repO
  rw [if_pos ⟨by omega, by omega, by rw [List.length_singleton, Int.toNat_natCast]; omega⟩, Int.toNat_natCast, List.flatten_replicate_singleton]
theorem repO_neg {x : α} {k : Int} (h : k ≤ 0) (h2 : -9223372036854775808 ≤ k) : repO [x] k = some [] := by
  unfold repO
  rw [if_pos ⟨by omega, by omega, by rw [show k.toNat = 0 by omega]; simp⟩, show k.toNat = 0 by omega]
  rfl
/-- a comprehension without a test whose items never stop -/
theorem lcR_map {c : α → R Bool} {f : α → R β} {g : α → β} : ∀ {xs : List α}, (∀ x ∈ xs, c x = .ok true) → (∀ x ∈ xs, f x = .ok (g x)) → lcR c f xs = .ok (xs.map g)
  | [], _, _ => rfl
  | x :: xs, hc, hf => by
    show (noErr (c x) >>= _) = _
    rw [hc x List.mem_cons_self]
    show (noErr (f x) >>= _) = _
    rw [hf x List.mem_cons_self]
    show (lcR c f xs >>= _) = _
    rw [lcR_map (fun y hy => hc y (List.mem_cons_of_mem _ hy)) fun y hy => hf y (List.mem_cons_of_mem _ hy)]
    rfl
theorem compR_map {c : α → R Bool} {f : α → R β} {xs : List α} (g : α → β) (h : xs.length ≤ 16777216) (hc : ∀ x ∈ xs, c x = .ok true) (hf : ∀ x ∈ xs, f x = .ok (g x)) : compR c f xs = .ok (xs.map g) := by
  unfold compR
  rw [if_pos h, lcR_map hc hf]
/-- .. with a test -/
theorem lcR_filter {c : α → R Bool} {f : α → R β} {p : α → Bool} {g : α → β} : ∀ {xs : List α}, (∀ x ∈ xs, c x = .ok (p x)) → (∀ x ∈ xs, p x = true → f x = .ok (g x)) → lcR c f xs = .ok ((xs.filter p).map g)
  | [], _, _ => rfl
  | x :: xs, hc, hf => by
    have ih := lcR_filter (c := c) (f := f) (p := p) (g := g) (xs := xs) (fun y hy => hc y (List.mem_cons_of_mem _ hy)) fun y hy => hf y (List.mem_cons_of_mem _ hy)
    show (noErr (c x) >>= _) = _
    rw [hc x List.mem_cons_self]
    cases e : p x with
    | false =>
      show lcR c f xs = _
      rw [ih, List.filter_cons_of_neg (by rw [e]; decide)]
    | true =>
      show (noErr (f x) >>= _) = _
      rw [hf x List.mem_cons_self e]
      show (lcR c f xs >>= _) = _
      rw [ih, List.filter_cons_of_pos e]
      rfl
theorem compR_filter {c : α → R Bool} {f : α → R β} {xs : List α} (p : α → Bool) (g : α → β) (h : xs.length ≤ 16777216) (hc : ∀ x ∈ xs, c x = .ok (p x)) (hf : ∀ x ∈ xs, p x = true → f x = .ok (g x)) : compR c f xs = .ok ((xs.filter p).map g) := by
  unfold compR
  rw [if_pos h, lcR_filter hc hf]
end
end Cn
namespace K13
open PySem PySem.Spec L2 Cn
def top (i : Nat) : Stmt := PySem.Challenge.pw_cairnhouse_k13_sealed_sectors.main.body.getD i (.Pass ⟨0, 0, 0, 0⟩)
abbrev s__law_draws : Stmt := top 14
abbrev s__law_stamp : Stmt := top 19
abbrev s_three_octets : Stmt := top 5
abbrev s_check_octet : Stmt := top 4
abbrev s_seal_half : Stmt := top 7
abbrev s_seal : Stmt := top 9
abbrev s__law_spoilt : Stmt := top 21
abbrev s_join_halves : Stmt := top 10
abbrev s_from_octets : Stmt := top 6
abbrev s_read_half : Stmt := top 8
abbrev s_read_sector : Stmt := top 11
abbrev s__law_is_number : Stmt := top 15
abbrev s__law_octets_only : Stmt := top 16
abbrev s__law_reads : Stmt := top 20
abbrev s_newest_stamp : Stmt := top 12
abbrev s__law_half : Stmt := top 17
abbrev s__law_sector : Stmt := top 18
abbrev s__law_rotten_all : Stmt := top 22
abbrev s_law : Stmt := top 23
/-- what the top has written -/
structure Tx (K : PySem.W.Frag) (mg : Str → Option Value) where
  a__law_draws : Addr
  d__law_draws : FuncData
  F__law_draws : Fun K "_law_draws" "_law_draws" s__law_draws a__law_draws d__law_draws
  b__law_draws : Binds K d__law_draws ["script", "many"] []
  g__law_draws : mg "_law_draws" = some (.ref a__law_draws)
  a__law_stamp : Addr
  d__law_stamp : FuncData
  F__law_stamp : Fun K "_law_stamp" "_law_stamp" s__law_stamp a__law_stamp d__law_stamp
  b__law_stamp : Binds K d__law_stamp ["one", "two"] []
  g__law_stamp : mg "_law_stamp" = some (.ref a__law_stamp)
  a_three_octets : Addr
  d_three_octets : FuncData
  F_three_octets : Fun K "three_octets" "three_octets" s_three_octets a_three_octets d_three_octets
  b_three_octets : Binds K d_three_octets ["number"] []
  g_three_octets : mg "three_octets" = some (.ref a_three_octets)
  a_check_octet : Addr
  d_check_octet : FuncData
  F_check_octet : Fun K "check_octet" "check_octet" s_check_octet a_check_octet d_check_octet
  b_check_octet : Binds K d_check_octet ["octets"] []
  g_check_octet : mg "check_octet" = some (.ref a_check_octet)
  a_seal_half : Addr
  d_seal_half : FuncData
  F_seal_half : Fun K "seal_half" "seal_half" s_seal_half a_seal_half d_seal_half
  b_seal_half : Binds K d_seal_half ["stamp", "data"] []
  g_seal_half : mg "seal_half" = some (.ref a_seal_half)
  a_seal : Addr
  d_seal : FuncData
  F_seal : Fun K "seal" "seal" s_seal a_seal d_seal
  b_seal : Binds K d_seal ["stamp", "data"] []
  g_seal : mg "seal" = some (.ref a_seal)
  a__law_spoilt : Addr
  d__law_spoilt : FuncData
  F__law_spoilt : Fun K "_law_spoilt" "_law_spoilt" s__law_spoilt a__law_spoilt d__law_spoilt
  b__law_spoilt : Binds K d__law_spoilt ["sector", "place", "draw"] []
  g__law_spoilt : mg "_law_spoilt" = some (.ref a__law_spoilt)
  a_join_halves : Addr
  d_join_halves : FuncData
  F_join_halves : Fun K "join_halves" "join_halves" s_join_halves a_join_halves d_join_halves
  b_join_halves : Binds K d_join_halves ["left", "right"] []
  g_join_halves : mg "join_halves" = some (.ref a_join_halves)
  a_from_octets : Addr
  d_from_octets : FuncData
  F_from_octets : Fun K "from_octets" "from_octets" s_from_octets a_from_octets d_from_octets
  b_from_octets : Binds K d_from_octets ["octets"] []
  g_from_octets : mg "from_octets" = some (.ref a_from_octets)
  a_read_half : Addr
  d_read_half : FuncData
  F_read_half : Fun K "read_half" "read_half" s_read_half a_read_half d_read_half
  b_read_half : Binds K d_read_half ["half"] []
  g_read_half : mg "read_half" = some (.ref a_read_half)
  a_read_sector : Addr
  d_read_sector : FuncData
  F_read_sector : Fun K "read_sector" "read_sector" s_read_sector a_read_sector d_read_sector
  b_read_sector : Binds K d_read_sector ["sector"] []
  g_read_sector : mg "read_sector" = some (.ref a_read_sector)
  a__law_is_number : Addr
  d__law_is_number : FuncData
  F__law_is_number : Fun K "_law_is_number" "_law_is_number" s__law_is_number a__law_is_number d__law_is_number
  b__law_is_number : Binds K d__law_is_number ["value"] []
  g__law_is_number : mg "_law_is_number" = some (.ref a__law_is_number)
  a__law_octets_only : Addr
  d__law_octets_only : FuncData
  F__law_octets_only : Fun K "_law_octets_only" "_law_octets_only" s__law_octets_only a__law_octets_only d__law_octets_only
  b__law_octets_only : Binds K d__law_octets_only ["values"] []
  g__law_octets_only : mg "_law_octets_only" = some (.ref a__law_octets_only)
  a__law_reads : Addr
  d__law_reads : FuncData
  F__law_reads : Fun K "_law_reads" "_law_reads" s__law_reads a__law_reads d__law_reads
  b__law_reads : Binds K d__law_reads ["sector", "due"] []
  g__law_reads : mg "_law_reads" = some (.ref a__law_reads)
  a_newest_stamp : Addr
  d_newest_stamp : FuncData
  F_newest_stamp : Fun K "newest_stamp" "newest_stamp" s_newest_stamp a_newest_stamp d_newest_stamp
  b_newest_stamp : Binds K d_newest_stamp ["sectors"] []
  g_newest_stamp : mg "newest_stamp" = some (.ref a_newest_stamp)
  a__law_half : Addr
  d__law_half : FuncData
  F__law_half : Fun K "_law_half" "_law_half" s__law_half a__law_half d__law_half
  b__law_half : Binds K d__law_half ["stamp", "data"] []
  g__law_half : mg "_law_half" = some (.ref a__law_half)
  a__law_sector : Addr
  d__law_sector : FuncData
  F__law_sector : Fun K "_law_sector" "_law_sector" s__law_sector a__law_sector d__law_sector
  b__law_sector : Binds K d__law_sector ["stamp", "data"] []
  g__law_sector : mg "_law_sector" = some (.ref a__law_sector)
  a__law_rotten_all : Addr
  d__law_rotten_all : FuncData
  F__law_rotten_all : Fun K "_law_rotten_all" "_law_rotten_all" s__law_rotten_all a__law_rotten_all d__law_rotten_all
  b__law_rotten_all : Binds K d__law_rotten_all ["sectors", "draws"] []
  g__law_rotten_all : mg "_law_rotten_all" = some (.ref a__law_rotten_all)
  a_law : Addr
  d_law : FuncData
  F_law : Fun K "law" "law" s_law a_law d_law
  b_law : Binds K d_law ["script"] []
  g_law : mg "law" = some (.ref a_law)
  b_abs : mg "abs" = none
  b_all : mg "all" = none
  b_any : mg "any" = none
  b_bool : mg "bool" = none
  b_int : mg "int" = none
  b_isinstance : mg "isinstance" = none
  b_len : mg "len" = none
  b_list : mg "list" = none
  b_max : mg "max" = none
  b_range : mg "range" = none
  b_sum : mg "sum" = none
  b_tuple : mg "tuple" = none
  k_DATA : Tok
  c_DATA : mg "DATA" = some (.int 11 k_DATA)
  k_HALF : Tok
  c_HALF : mg "HALF" = some (.int 16 k_HALF)
  k_MARK : Tok
  c_MARK : mg "MARK" = some (.int 197 k_MARK)
variable {P : Program} {w : World} {K : PySem.W.Frag} {mg : Str → Option Value} {base : Heap}
theorem sc__law_draws : FnScope ["script", "many", "draws", "seed", "cell", "k", "number"] ["script", "many"] (defScope s__law_draws) := ⟨rfl, rfl, rfl, by decide +kernel, rfl, by decide +kernel, by decide +kernel⟩
noncomputable def _law_draws (script : (List Int)) (many : Int) : R (List Int) :=
  ((R.ok () >>= fun p => .ok ((fun p : Unit => ([] : List Int)) p)) >>= fun draws_1 => (R.ok (7 : Int) >>= fun seed_2 => (((R.ok script >>= fun xs => R.ok none >>= fun i => (R.ok (63 : Int) >>= fun i => .ok (some i)) >>= fun j => .ok (cutL xs i j)) >>= fun xs => forS (fun (x_4 : Int) (s_3 : (List Int) × Int) => ((R.ok x_4 >>= fun i => .ok (if i < 0 then -i else i)) >>= fun number_5 => (((((R.ok s_3.2 >>= fun x => .ok (x * 48271)) >>= fun x => R.ok number_5 >>= fun y => .ok (x + y)) >>= fun x => R.ok (11 : Int) >>= fun y => .ok (x + y)) >>= fun x => .ok (x % 2147483647)) >>= fun seed_6 => (((R.ok number_5 >>= fun x => R.ok (1000000000000000000 : Int) >>= fun y => .ok (decide (y ≤ x))) >>= fun x => if x then (((R.ok (60 : Int) >>= fun n => ofO (rangeO 0 n)) >>= fun xs => forS (fun (x_9 : Int) (s_8 : (List Int) × Int) => (((R.ok s_8.2 >>= fun x => R.ok (0 : Int) >>= fun y => .ok (decide (y < x))) >>= fun x => if x then (((R.ok s_8.2 >>= fun x => .ok (x % 1009)) >>= fun x => ofO (appO s_8.1 x)) >>= fun draws_11 => ((R.ok s_8.2 >>= fun x => .ok (x / 1009)) >>= fun number_12 => R.ok (draws_11, number_12))) else R.ok (s_8.1, s_8.2)) >>= fun j_10 : (List Int) × Int => R.ok (j_10.1, j_10.2))) xs (s_3.1, number_5)) >>= fun s_13 : (List Int) × Int => R.ok s_13.1) else ((((((R.ok seed_6 >>= fun x => .ok (x * 16807)) >>= fun x => R.ok (5 : Int) >>= fun y => .ok (x + y)) >>= fun x => .ok (x / 3)) >>= fun x => .ok (x % 65521)) >>= fun x => ofO (appO s_3.1 x)) >>= fun draws_14 => R.ok draws_14)) >>= fun j_7 : (List Int) => R.ok (j_7, seed_6))))) xs (draws_1, seed_2)) >>= fun s_15 : (List Int) × Int => (((R.ok many >>= fun n => ofO (rangeO 0 n)) >>= fun xs => forS (fun (x_17 : Int) (s_16 : (List Int) × Int) => ((((R.ok s_16.1 >>= fun xs => .ok (xs.length : Int)) >>= fun x => R.ok many >>= fun y => .ok (decide (x < y))) >>= fun x => if x then (((((R.ok s_16.2 >>= fun x => .ok (x * 69621)) >>= fun x => R.ok x_17 >>= fun y => .ok (x + y)) >>= fun x => R.ok (1 : Int) >>= fun y => .ok (x + y)) >>= fun x => .ok (x % 2147483647)) >>= fun seed_19 => ((((R.ok seed_19 >>= fun x => .ok (x / 7)) >>= fun x => .ok (x % 65521)) >>= fun x => ofO (appO s_16.1 x)) >>= fun draws_20 => R.ok (draws_20, seed_19))) else R.ok (s_16.1, s_16.2)) >>= fun j_18 : (List Int) × Int => R.ok (j_18.1, j_18.2))) xs (s_15.1, s_15.2)) >>= fun s_21 : (List Int) × Int => ((R.ok s_21.1 >>= fun xs => R.ok none >>= fun i => (R.ok many >>= fun i => .ok (some i)) >>= fun j => .ok (cutL xs i j)) >>= fun r => .ok (r))))))
theorem ok__law_draws (Tx : Tx K mg) : FnOk P w K mg base (L2.CX P w) 1 Tx.a__law_draws Tx.d__law_draws ["script", "many"]
    (SpF ⟨K, mg⟩ (fun p : (List Int) × Int × Unit => [D.frl ((p.1).map D.int), D.int p.2.1]) (fun r : (List Int) => .lst ((r).map fun x => .imm (D.int x))) (fun p => _law_draws p.1 p.2.1)) := by
  refine fn_pure Tx.F__law_draws sc__law_draws (fun _ => rfl) fun cdv A outer s H E hr p => ?_
  obtain ⟨script, many, _⟩ := p
  exact bk_cons (st_set 2 (df_disp (ei := D.int) da_nil (fun p : Unit => ([] : List Int))) trivial rfl sc__law_draws.nd) fun draws_1 => bk_cons (st_set 3 (df_of_dd dd_int) trivial rfl sc__law_draws.nd) fun seed_2 => bk_cons (Γ1 := fun s_3 : (List Int) × Int => [.ow (.imm (D.frl ((script).map D.int))), .ow (.imm (D.int many)), .ow (.lst ((s_3.1).map fun x => .imm (D.int x))), .ow (.imm (D.int s_3.2)), .un, .un, .un]) (st_forS (Γs := fun s_3 : (List Int) × Int => [.ow (.imm (D.frl ((script).map D.int))), .ow (.imm (D.int many)), .ow (.lst ((s_3.1).map fun x => .imm (D.int x))), .ow (.imm (D.int s_3.2)), .un, .un, .un]) (ei := D.int) (draws_1, seed_2) (passes_of rfl) rfl (di_list (ei := D.int) (dd_list (ε := D.int) (df_slL (ei := D.int) (dl_frl (ei := D.int) (dd_var (emb := (fun xs : (List Int) => D.frl (xs.map D.int))) 0 rfl)) do_none (do_some dd_int)))) (fun s_3 x_4 => (dg_name 4 sc__law_draws.nd)) (fun s_3 x_4 => bk_cons (st_set 6 (df_of_dd (dd_absI (dd_var (emb := D.int) 4 rfl) Tx.b_abs)) trivial rfl sc__law_draws.nd) fun number_5 => bk_cons (st_set 3 (df_of_dd (dd_modC (dd_intI (dd_add (dd_add (dd_mulC (dd_var (emb := D.int) 3 rfl) dd_int (by decide)) (dd_var (emb := D.int) 6 rfl)) dd_int) Tx.b_int) dd_int (by decide))) trivial rfl sc__law_draws.nd) fun seed_6 => bk_cons (Γ1 := fun j_7 : (List Int) => [.ow (.imm (D.frl ((script).map D.int))), .ow (.imm (D.int many)), .ow (.lst ((j_7).map fun x => .imm (D.int x))), .ow (.imm (D.int seed_6)), .ow (.imm (D.int x_4)), .un, .un]) (st_if (dt_ge (dd_var (emb := D.int) 6 rfl) (dd_powC dd_int dd_int (powO_lit (by decide +kernel) (by decide +kernel)))) (bk_cons (Γ1 := fun s_8 : (List Int) × Int => [.ow (.imm (D.frl ((script).map D.int))), .ow (.imm (D.int many)), .ow (.lst ((s_8.1).map fun x => .imm (D.int x))), .ow (.imm (D.int seed_6)), .ow (.imm (D.int x_4)), .un, .ow (.imm (D.int s_8.2))]) (st_forS (Γs := fun s_8 : (List Int) × Int => [.ow (.imm (D.frl ((script).map D.int))), .ow (.imm (D.int many)), .ow (.lst ((s_8.1).map fun x => .imm (D.int x))), .ow (.imm (D.int seed_6)), .ow (.imm (D.int x_4)), .un, .ow (.imm (D.int s_8.2))]) (ei := D.int) (s_3.1, number_5) (passes_of rfl) rfl (di_range1 dd_int Tx.b_range) (fun s_8 x_9 => (dg_name 5 sc__law_draws.nd)) (fun s_8 x_9 => bk_cons (Γ1 := fun j_10 : (List Int) × Int => [.ow (.imm (D.frl ((script).map D.int))), .ow (.imm (D.int many)), .ow (.lst ((j_10.1).map fun x => .imm (D.int x))), .ow (.imm (D.int seed_6)), .ow (.imm (D.int x_4)), .ow (.imm (D.int x_9)), .ow (.imm (D.int j_10.2))]) (st_if (dt_gt (dd_var (emb := D.int) 6 rfl) dd_int) (bk_cons (st_append (ei := D.int) 2 rfl (dd_modC (dd_intI (dd_var (emb := D.int) 6 rfl) Tx.b_int) dd_int (by decide)) trivial) fun draws_11 => bk_cons (st_set 6 (df_of_dd (dd_divC (dd_var (emb := D.int) 6 rfl) dd_int (by decide))) trivial rfl sc__law_draws.nd) fun number_12 => bk_nil (o := (draws_11, number_12)) rfl ⟨rfl, rfl, rfl, rfl, rfl, rfl, rfl, trivial⟩) (bk_nil (o := (s_8.1, s_8.2)) rfl ⟨rfl, rfl, rfl, rfl, rfl, rfl, rfl, trivial⟩) trivial) fun j_10 => bk_nil (o := (j_10.1, j_10.2)) rfl ⟨rfl, rfl, rfl, rfl, rfl, rfl, trivial⟩) ⟨rfl, rfl, rfl, rfl, rfl, rfl, trivial⟩ trivial) fun s_13 => bk_nil (o := s_13.1) rfl ⟨rfl, rfl, rfl, rfl, rfl, trivial⟩) (bk_cons (st_append (ei := D.int) 2 rfl (dd_modC (dd_divC (dd_intI (dd_add (dd_mulC (dd_var (emb := D.int) 3 rfl) dd_int (by decide)) dd_int) Tx.b_int) dd_int (by decide)) dd_int (by decide)) trivial) fun draws_14 => bk_nil (o := draws_14) rfl ⟨rfl, rfl, rfl, rfl, rfl, trivial⟩) trivial) fun j_7 => bk_nil (o := (j_7, seed_6)) rfl ⟨rfl, rfl, rfl, rfl, trivial⟩) ⟨rfl, rfl, rfl, rfl, trivial⟩ trivial) fun s_15 => bk_cons (Γ1 := fun s_16 : (List Int) × Int => [.ow (.imm (D.frl ((script).map D.int))), .ow (.imm (D.int many)), .ow (.lst ((s_16.1).map fun x => .imm (D.int x))), .ow (.imm (D.int s_16.2)), .un, .un, .un]) (st_forS (Γs := fun s_16 : (List Int) × Int => [.ow (.imm (D.frl ((script).map D.int))), .ow (.imm (D.int many)), .ow (.lst ((s_16.1).map fun x => .imm (D.int x))), .ow (.imm (D.int s_16.2)), .un, .un, .un]) (ei := D.int) (s_15.1, s_15.2) (passes_of rfl) rfl (di_range1 (dd_var (emb := D.int) 1 rfl) Tx.b_range) (fun s_16 x_17 => (dg_name 5 sc__law_draws.nd)) (fun s_16 x_17 => bk_cons (Γ1 := fun j_18 : (List Int) × Int => [.ow (.imm (D.frl ((script).map D.int))), .ow (.imm (D.int many)), .ow (.lst ((j_18.1).map fun x => .imm (D.int x))), .ow (.imm (D.int j_18.2)), .un, .ow (.imm (D.int x_17)), .un]) (st_if (dt_lt (dd_lenL (ei := D.int) (dl_own (ei := D.int) (db_var (emb := (fun xs : (List Int) => T.lst (xs.map fun x => T.imm (D.int x)))) 2 rfl)) Tx.b_len) (dd_var (emb := D.int) 1 rfl)) (bk_cons (st_set 3 (df_of_dd (dd_modC (dd_intI (dd_add (dd_add (dd_mulC (dd_var (emb := D.int) 3 rfl) dd_int (by decide)) (dd_var (emb := D.int) 5 rfl)) dd_int) Tx.b_int) dd_int (by decide))) trivial rfl sc__law_draws.nd) fun seed_19 => bk_cons (st_append (ei := D.int) 2 rfl (dd_modC (dd_divC (dd_intI (dd_var (emb := D.int) 3 rfl) Tx.b_int) dd_int (by decide)) dd_int (by decide)) trivial) fun draws_20 => bk_nil (o := (draws_20, seed_19)) rfl ⟨rfl, rfl, rfl, rfl, rfl, trivial⟩) (bk_nil (o := (s_16.1, s_16.2)) rfl ⟨rfl, rfl, rfl, rfl, rfl, trivial⟩) trivial) fun j_18 => bk_nil (o := (j_18.1, j_18.2)) rfl ⟨rfl, rfl, rfl, rfl, trivial⟩) ⟨rfl, rfl, rfl, rfl, trivial⟩ trivial) fun s_21 => bk_ret (df_slL (ei := D.int) (dl_own (ei := D.int) (db_var (emb := (fun xs : (List Int) => T.lst (xs.map fun x => T.imm (D.int x)))) 2 rfl)) do_none (do_some (dd_var (emb := D.int) 1 rfl))) (g := fun r => r) (fun _ => rfl) trivial trivial

theorem sc__law_stamp : FnScope ["one", "two", "stamps"] ["one", "two"] (defScope s__law_stamp) := ⟨rfl, rfl, rfl, by decide +kernel, rfl, by decide +kernel, by decide +kernel⟩
noncomputable def _law_stamp (one : Int) (two : Int) : R Int :=
  (((R.ok (1 : Int) >>= fun x => (R.ok (2 : Int) >>= fun x => (R.ok (255 : Int) >>= fun x => (R.ok (256 : Int) >>= fun x => (R.ok (65535 : Int) >>= fun x => (R.ok (65536 : Int) >>= fun x => (R.ok (16777215 : Int) >>= fun x => (R.ok (16777214 : Int) >>= fun x => ((R.ok (1 : Int) >>= fun x => R.ok one >>= fun y => .ok (x + y)) >>= fun x => (((R.ok (1 : Int) >>= fun x => (R.ok one >>= fun x => .ok (x * 256)) >>= fun y => .ok (x + y)) >>= fun x => (R.ok two >>= fun x => .ok (x % 256)) >>= fun y => .ok (x + y)) >>= fun x => R.ok () >>= fun y => .ok (x, y)) >>= fun y => .ok (x, y)) >>= fun y => .ok (x, y)) >>= fun y => .ok (x, y)) >>= fun y => .ok (x, y)) >>= fun y => .ok (x, y)) >>= fun y => .ok (x, y)) >>= fun y => .ok (x, y)) >>= fun y => .ok (x, y)) >>= fun y => .ok (x, y)) >>= fun p => .ok ((fun p : Int × Int × Int × Int × Int × Int × Int × Int × Int × Int × Unit => ([p.1, p.2.1, p.2.2.1, p.2.2.2.1, p.2.2.2.2.1, p.2.2.2.2.2.1, p.2.2.2.2.2.2.1, p.2.2.2.2.2.2.2.1, p.2.2.2.2.2.2.2.2.1, p.2.2.2.2.2.2.2.2.2.1] : List Int)) p)) >>= fun stamps_1 => ((R.ok stamps_1 >>= fun xs => (R.ok two >>= fun x => .ok (x % 10)) >>= fun i => ofO (atI xs i)) >>= fun r => .ok (r)))
theorem ok__law_stamp (Tx : Tx K mg) : FnOk P w K mg base (L2.CX P w) 1 Tx.a__law_stamp Tx.d__law_stamp ["one", "two"]
    (SpF ⟨K, mg⟩ (fun p : Int × Int × Unit => [D.int p.1, D.int p.2.1]) (fun r : Int => .imm (D.int r)) (fun p => _law_stamp p.1 p.2.1)) := by
  refine fn_pure Tx.F__law_stamp sc__law_stamp (fun _ => rfl) fun cdv A outer s H E hr p => ?_
  obtain ⟨one, two, _⟩ := p
  exact bk_cons (st_set 2 (df_disp (ei := D.int) (da_cons dd_int (da_cons dd_int (da_cons dd_int (da_cons dd_int (da_cons dd_int (da_cons dd_int (da_cons dd_int (da_cons dd_int (da_cons (dd_add dd_int (dd_var (emb := D.int) 0 rfl)) (da_cons (dd_add (dd_add dd_int (dd_mulC (dd_var (emb := D.int) 0 rfl) dd_int (by decide))) (dd_modC (dd_intI (dd_var (emb := D.int) 1 rfl) Tx.b_int) dd_int (by decide))) da_nil)))))))))) (fun p : Int × Int × Int × Int × Int × Int × Int × Int × Int × Int × Unit => ([p.1, p.2.1, p.2.2.1, p.2.2.2.1, p.2.2.2.2.1, p.2.2.2.2.2.1, p.2.2.2.2.2.2.1, p.2.2.2.2.2.2.2.1, p.2.2.2.2.2.2.2.2.1, p.2.2.2.2.2.2.2.2.2.1] : List Int))) trivial rfl sc__law_stamp.nd) fun stamps_1 => bk_ret (df_of_dd (dd_ixL (ei := D.int) (dl_own (ei := D.int) (db_var (emb := (fun xs : (List Int) => T.lst (xs.map fun x => T.imm (D.int x)))) 2 rfl)) (dd_modC (dd_intI (dd_var (emb := D.int) 1 rfl) Tx.b_int) dd_int (by decide)))) (g := fun r => r) (fun _ => rfl) trivial trivial

theorem sc_three_octets : FnScope ["number"] ["number"] (defScope s_three_octets) := ⟨rfl, rfl, rfl, by decide +kernel, rfl, by decide +kernel, by decide +kernel⟩
noncomputable def three_octets (number : Int) : R (List Int) :=
  ((((R.ok number >>= fun x => .ok (x / 65536)) >>= fun x => (((R.ok number >>= fun x => .ok (x / 256)) >>= fun x => .ok (x % 256)) >>= fun x => ((R.ok number >>= fun x => .ok (x % 256)) >>= fun x => R.ok () >>= fun y => .ok (x, y)) >>= fun y => .ok (x, y)) >>= fun y => .ok (x, y)) >>= fun p => .ok ((fun p : Int × Int × Int × Unit => ([p.1, p.2.1, p.2.2.1] : List Int)) p)) >>= fun r => .ok (r))
theorem ok_three_octets (Tx : Tx K mg) : FnOk P w K mg base (L2.CX P w) 1 Tx.a_three_octets Tx.d_three_octets ["number"]
    (SpF ⟨K, mg⟩ (fun p : Int × Unit => [D.int p.1]) (fun r : (List Int) => .lst ((r).map fun x => .imm (D.int x))) (fun p => three_octets p.1)) := by
  refine fn_pure Tx.F_three_octets sc_three_octets (fun _ => rfl) fun cdv A outer s H E hr p => ?_
  obtain ⟨number, _⟩ := p
  exact bk_ret (df_disp (ei := D.int) (da_cons (dd_divC (dd_var (emb := D.int) 0 rfl) dd_int (by decide)) (da_cons (dd_modC (dd_divC (dd_var (emb := D.int) 0 rfl) dd_int (by decide)) dd_int (by decide)) (da_cons (dd_modC (dd_var (emb := D.int) 0 rfl) dd_int (by decide)) da_nil))) (fun p : Int × Int × Int × Unit => ([p.1, p.2.1, p.2.2.1] : List Int))) (g := fun r => r) (fun _ => rfl) trivial trivial

theorem sc_check_octet_v0 : FnScope ["octets"] ["octets"] (defScope s_check_octet) := ⟨rfl, rfl, rfl, by decide +kernel, rfl, by decide +kernel, by decide +kernel⟩
noncomputable def check_octet_v0 (octets : (List Int)) : R Int :=
  (((R.ok octets >>= fun xs => .ok (xs.sum)) >>= fun x => .ok (x % 256)) >>= fun r => .ok (r))
theorem ok_check_octet_v0 (Tx : Tx K mg) : FnOk P w K mg base (L2.CX P w) 1 Tx.a_check_octet Tx.d_check_octet ["octets"]
    (SpF ⟨K, mg⟩ (fun p : (List Int) × Unit => [D.lst ((p.1).map D.int)]) (fun r : Int => .imm (D.int r)) (fun p => check_octet_v0 p.1)) := by
  refine fn_pure Tx.F_check_octet sc_check_octet_v0 (fun _ => rfl) fun cdv A outer s H E hr p => ?_
  obtain ⟨octets, _⟩ := p
  exact bk_ret (df_of_dd (dd_modC (dd_sum rfl (dl_imm (ei := D.int) (dd_var (emb := (fun xs : (List Int) => D.lst (xs.map D.int))) 0 rfl)) Tx.b_sum) dd_int (by decide))) (g := fun r => r) (fun _ => rfl) trivial trivial

theorem sc_check_octet_v1 : FnScope ["octets"] ["octets"] (defScope s_check_octet) := ⟨rfl, rfl, rfl, by decide +kernel, rfl, by decide +kernel, by decide +kernel⟩
noncomputable def check_octet_v1 (octets : (List Int)) : R Int :=
  (((R.ok octets >>= fun xs => .ok xs.sum) >>= fun x => .ok (x % 256)) >>= fun r => .ok (r))
theorem ok_check_octet_v1 (Tx : Tx K mg) : FnOk P w K mg base (L2.CX P w) 1 Tx.a_check_octet Tx.d_check_octet ["octets"]
    (SpF ⟨K, mg⟩ (fun p : (List Int) × Unit => [D.tup ((p.1).map D.int)]) (fun r : Int => .imm (D.int r)) (fun p => check_octet_v1 p.1)) := by
  refine fn_pure Tx.F_check_octet sc_check_octet_v1 (fun _ => rfl) fun cdv A outer s H E hr p => ?_
  obtain ⟨octets, _⟩ := p
  exact bk_ret (df_of_dd (dd_modC (dd_sumT rfl (dd_var (emb := (fun xs : (List Int) => D.tup (xs.map D.int))) 0 rfl) Tx.b_sum) dd_int (by decide))) (g := fun r => r) (fun _ => rfl) trivial trivial

theorem sc_seal_half : FnScope ["stamp", "data", "front"] ["stamp", "data"] (defScope s_seal_half) := ⟨rfl, rfl, rfl, by decide +kernel, rfl, by decide +kernel, by decide +kernel⟩
noncomputable def seal_half (stamp : Int) (data : (List Int)) : R (List Int) :=
  (((((R.ok (197 : Int) >>= fun x => R.ok () >>= fun y => .ok (x, y)) >>= fun p => .ok ((fun p : Int × Unit => ([p.1] : List Int)) p)) >>= fun xs => ((R.ok stamp >>= fun x => R.ok () >>= fun y => .ok (x, y)) >>= fun p : Int × Unit => (three_octets p.1)) >>= fun ys => ofO (catO xs ys)) >>= fun xs => R.ok data >>= fun ys => ofO (catO xs ys)) >>= fun front_1 => ((R.ok front_1 >>= fun xs => ((((R.ok front_1 >>= fun x => R.ok () >>= fun y => .ok (x, y)) >>= fun p : (List Int) × Unit => (check_octet_v0 p.1)) >>= fun x => R.ok () >>= fun y => .ok (x, y)) >>= fun p => .ok ((fun p : Int × Unit => ([p.1] : List Int)) p)) >>= fun ys => ofO (catO xs ys)) >>= fun r => .ok (r)))
theorem ok_seal_half (Tx : Tx K mg) : FnOk P w K mg base (L2.CX P w) 2 Tx.a_seal_half Tx.d_seal_half ["stamp", "data"]
    (SpF ⟨K, mg⟩ (fun p : Int × (List Int) × Unit => [D.int p.1, D.lst ((p.2.1).map D.int)]) (fun r : (List Int) => .imm (D.tup ((r).map D.int))) (fun p => seal_half p.1 p.2.1)) := by
  refine fn_pure Tx.F_seal_half sc_seal_half (fun _ => rfl) fun cdv A outer s H E hr p => ?_
  obtain ⟨stamp, data, _⟩ := p
  exact bk_cons (st_set 2 (df_cat (ei := D.int) (dlt_own (ei := D.int) (db_of_df (df_cat (ei := D.int) (dlt_own (ei := D.int) (db_of_df (df_disp (ei := D.int) (da_cons (dd_gint Tx.c_MARK) da_nil) (fun p : Int × Unit => ([p.1] : List Int))))) (dlt_own (ei := D.int) (db_of_df (df_call (ok_three_octets Tx) (hr.mono (by decide)) Tx.g_three_octets Tx.F_three_octets.kp Tx.b_three_octets (takes_of rfl rfl rfl rfl) (da_cons (dd_var (emb := D.int) 0 rfl) da_nil))))))) (dlt_own (ei := D.int) (db_of_df (df_listL (ei := D.int) (dl_imm (ei := D.int) (dd_var (emb := (fun xs : (List Int) => D.lst (xs.map D.int))) 1 rfl)) Tx.b_list)))) trivial rfl sc_seal_half.nd) fun front_1 => bk_freezeL (ei := D.int) 2 rfl (bk_ret (df_of_dd (dd_tupleL (ei := D.int) (dl_own (ei := D.int) (db_of_df (df_cat (ei := D.int) (dlt_imm (ei := D.int) (dd_var (emb := (fun xs : (List Int) => D.lst (xs.map D.int))) 2 rfl)) (dlt_own (ei := D.int) (db_of_df (df_disp (ei := D.int) (da_cons (dd_imm (df_call (ok_check_octet_v0 Tx) (hr.mono (by decide)) Tx.g_check_octet Tx.F_check_octet.kp Tx.b_check_octet (takes_of rfl rfl rfl rfl) (da_cons (ea := (fun xs : (List Int) => D.lst (xs.map D.int))) (dd_var (emb := (fun xs : (List Int) => D.lst (xs.map D.int))) 2 rfl) da_nil))) da_nil) (fun p : Int × Unit => ([p.1] : List Int)))))))) Tx.b_tuple)) (g := fun r => r) (fun _ => rfl) trivial trivial)

theorem sc_seal_v0 : FnScope ["stamp", "data", "full"] ["stamp", "data"] (defScope s_seal) := ⟨rfl, rfl, rfl, by decide +kernel, rfl, by decide +kernel, by decide +kernel⟩
noncomputable def seal_v0 (stamp : Int) (data : (List Int)) : R (List Int) :=
  ((R.ok data >>= fun xs => (((R.ok (0 : Int) >>= fun x => R.ok () >>= fun y => .ok (x, y)) >>= fun p => .ok ((fun p : Int × Unit => ([p.1] : List Int)) p)) >>= fun xs => ((R.ok (2 : Int) >>= fun x => .ok (x * 11)) >>= fun x => (R.ok data >>= fun xs => .ok (xs.length : Int)) >>= fun y => .ok (x - y)) >>= fun k => ofO (repO xs k)) >>= fun ys => ofO (catO xs ys)) >>= fun full_1 => ((((R.ok stamp >>= fun x => ((R.ok full_1 >>= fun xs => R.ok none >>= fun i => (R.ok (11 : Int) >>= fun i => .ok (some i)) >>= fun j => .ok (cutL xs i j)) >>= fun x => R.ok () >>= fun y => .ok (x, y)) >>= fun y => .ok (x, y)) >>= fun p : Int × (List Int) × Unit => (seal_half p.1 p.2.1)) >>= fun xs => ((R.ok stamp >>= fun x => ((R.ok full_1 >>= fun xs => (R.ok (11 : Int) >>= fun i => .ok (some i)) >>= fun i => R.ok none >>= fun j => .ok (cutL xs i j)) >>= fun x => R.ok () >>= fun y => .ok (x, y)) >>= fun y => .ok (x, y)) >>= fun p : Int × (List Int) × Unit => (seal_half p.1 p.2.1)) >>= fun ys => ofO (catO xs ys)) >>= fun r => .ok (r)))
theorem ok_seal_v0 (Tx : Tx K mg) : FnOk P w K mg base (L2.CX P w) 3 Tx.a_seal Tx.d_seal ["stamp", "data"]
    (SpF ⟨K, mg⟩ (fun p : Int × (List Int) × Unit => [D.int p.1, D.lst ((p.2.1).map D.int)]) (fun r : (List Int) => .imm (D.tup ((r).map D.int))) (fun p => seal_v0 p.1 p.2.1)) := by
  refine fn_pure Tx.F_seal sc_seal_v0 (fun _ => rfl) fun cdv A outer s H E hr p => ?_
  obtain ⟨stamp, data, _⟩ := p
  exact bk_cons (st_set 2 (df_cat (ei := D.int) (dlt_own (ei := D.int) (db_of_df (df_listL (ei := D.int) (dl_imm (ei := D.int) (dd_var (emb := (fun xs : (List Int) => D.lst (xs.map D.int))) 1 rfl)) Tx.b_list))) (dlt_own (ei := D.int) (db_of_df (df_rep (ei := D.int) (dlt_own (ei := D.int) (db_of_df (df_disp (ei := D.int) (da_cons dd_int da_nil) (fun p : Int × Unit => ([p.1] : List Int))))) (dd_sub (dd_mulC dd_int (dd_gint Tx.c_DATA) (by decide)) (dd_lenL (ei := D.int) (dl_imm (ei := D.int) (dd_var (emb := (fun xs : (List Int) => D.lst (xs.map D.int))) 1 rfl)) Tx.b_len)))))) trivial rfl sc_seal_v0.nd) fun full_1 => bk_ret (df_of_dd (dd_catT (ei := D.int) (dd_imm (df_call (ok_seal_half Tx) (hr.mono (by decide)) Tx.g_seal_half Tx.F_seal_half.kp Tx.b_seal_half (takes_of rfl rfl rfl rfl) (da_cons (dd_var (emb := D.int) 0 rfl) (da_cons (ea := (fun xs : (List Int) => D.lst (xs.map D.int))) (dd_list (ε := D.int) (df_slL (ei := D.int) (dl_own (ei := D.int) (db_var (emb := (fun xs : (List Int) => T.lst (xs.map fun x => T.imm (D.int x)))) 2 rfl)) do_none (do_some (dd_gint Tx.c_DATA)))) da_nil)))) (dd_imm (df_call (ok_seal_half Tx) (hr.mono (by decide)) Tx.g_seal_half Tx.F_seal_half.kp Tx.b_seal_half (takes_of rfl rfl rfl rfl) (da_cons (dd_var (emb := D.int) 0 rfl) (da_cons (ea := (fun xs : (List Int) => D.lst (xs.map D.int))) (dd_list (ε := D.int) (df_slL (ei := D.int) (dl_own (ei := D.int) (db_var (emb := (fun xs : (List Int) => T.lst (xs.map fun x => T.imm (D.int x)))) 2 rfl)) (do_some (dd_gint Tx.c_DATA)) do_none)) da_nil)))))) (g := fun r => r) (fun _ => rfl) trivial trivial

theorem sc_seal_v1 : FnScope ["stamp", "data", "full"] ["stamp", "data"] (defScope s_seal) := ⟨rfl, rfl, rfl, by decide +kernel, rfl, by decide +kernel, by decide +kernel⟩
noncomputable def seal_v1 (stamp : Int) (data : (List Int)) : R (List Int) :=
  ((R.ok data >>= fun xs => (((R.ok (0 : Int) >>= fun x => R.ok () >>= fun y => .ok (x, y)) >>= fun p => .ok ((fun p : Int × Unit => ([p.1] : List Int)) p)) >>= fun xs => ((R.ok (2 : Int) >>= fun x => .ok (x * 11)) >>= fun x => (R.ok data >>= fun xs => .ok (xs.length : Int)) >>= fun y => .ok (x - y)) >>= fun k => ofO (repO xs k)) >>= fun ys => ofO (catO xs ys)) >>= fun full_1 => ((((R.ok stamp >>= fun x => ((R.ok full_1 >>= fun xs => R.ok none >>= fun i => (R.ok (11 : Int) >>= fun i => .ok (some i)) >>= fun j => .ok (cutL xs i j)) >>= fun x => R.ok () >>= fun y => .ok (x, y)) >>= fun y => .ok (x, y)) >>= fun p : Int × (List Int) × Unit => (seal_half p.1 p.2.1)) >>= fun xs => ((R.ok stamp >>= fun x => ((R.ok full_1 >>= fun xs => (R.ok (11 : Int) >>= fun i => .ok (some i)) >>= fun i => R.ok none >>= fun j => .ok (cutL xs i j)) >>= fun x => R.ok () >>= fun y => .ok (x, y)) >>= fun y => .ok (x, y)) >>= fun p : Int × (List Int) × Unit => (seal_half p.1 p.2.1)) >>= fun ys => ofO (catO xs ys)) >>= fun r => .ok (r)))
theorem ok_seal_v1 (Tx : Tx K mg) : FnOk P w K mg base (L2.CX P w) 3 Tx.a_seal Tx.d_seal ["stamp", "data"]
    (SpF ⟨K, mg⟩ (fun p : Int × (List Int) × Unit => [D.int p.1, D.tup ((p.2.1).map D.int)]) (fun r : (List Int) => .imm (D.tup ((r).map D.int))) (fun p => seal_v1 p.1 p.2.1)) := by
  refine fn_pure Tx.F_seal sc_seal_v1 (fun _ => rfl) fun cdv A outer s H E hr p => ?_
  obtain ⟨stamp, data, _⟩ := p
  exact bk_cons (st_set 2 (df_cat (ei := D.int) (dlt_own (ei := D.int) (db_of_df (df_listT (ei := D.int) (dd_var (emb := (fun xs : (List Int) => D.tup (xs.map D.int))) 1 rfl) Tx.b_list))) (dlt_own (ei := D.int) (db_of_df (df_rep (ei := D.int) (dlt_own (ei := D.int) (db_of_df (df_disp (ei := D.int) (da_cons dd_int da_nil) (fun p : Int × Unit => ([p.1] : List Int))))) (dd_sub (dd_mulC dd_int (dd_gint Tx.c_DATA) (by decide)) (dd_lenT (ei := D.int) (dd_var (emb := (fun xs : (List Int) => D.tup (xs.map D.int))) 1 rfl) Tx.b_len)))))) trivial rfl sc_seal_v1.nd) fun full_1 => bk_ret (df_of_dd (dd_catT (ei := D.int) (dd_imm (df_call (ok_seal_half Tx) (hr.mono (by decide)) Tx.g_seal_half Tx.F_seal_half.kp Tx.b_seal_half (takes_of rfl rfl rfl rfl) (da_cons (dd_var (emb := D.int) 0 rfl) (da_cons (ea := (fun xs : (List Int) => D.lst (xs.map D.int))) (dd_list (ε := D.int) (df_slL (ei := D.int) (dl_own (ei := D.int) (db_var (emb := (fun xs : (List Int) => T.lst (xs.map fun x => T.imm (D.int x)))) 2 rfl)) do_none (do_some (dd_gint Tx.c_DATA)))) da_nil)))) (dd_imm (df_call (ok_seal_half Tx) (hr.mono (by decide)) Tx.g_seal_half Tx.F_seal_half.kp Tx.b_seal_half (takes_of rfl rfl rfl rfl) (da_cons (dd_var (emb := D.int) 0 rfl) (da_cons (ea := (fun xs : (List Int) => D.lst (xs.map D.int))) (dd_list (ε := D.int) (df_slL (ei := D.int) (dl_own (ei := D.int) (db_var (emb := (fun xs : (List Int) => T.lst (xs.map fun x => T.imm (D.int x)))) 2 rfl)) (do_some (dd_gint Tx.c_DATA)) do_none)) da_nil)))))) (g := fun r => r) (fun _ => rfl) trivial trivial

theorem sc__law_spoilt : FnScope ["sector", "place", "draw", "octet"] ["sector", "place", "draw"] (defScope s__law_spoilt) := ⟨rfl, rfl, rfl, by decide +kernel, rfl, by decide +kernel, by decide +kernel⟩
noncomputable def _law_spoilt (sector : (List Int)) (place : Int) (draw : Int) : R (List Int) :=
  (((((R.ok sector >>= fun xs => R.ok place >>= fun i => ofO (atI xs i)) >>= fun x => R.ok (1 : Int) >>= fun y => .ok (x + y)) >>= fun x => (R.ok draw >>= fun x => .ok (x % 255)) >>= fun y => .ok (x + y)) >>= fun x => .ok (x % 256)) >>= fun octet_1 => ((((R.ok sector >>= fun xs => R.ok none >>= fun i => (R.ok place >>= fun i => .ok (some i)) >>= fun j => .ok (cutL xs i j)) >>= fun xs => ((R.ok octet_1 >>= fun x => R.ok () >>= fun y => .ok (x, y)) >>= fun p => .ok ((fun p : Int × Unit => ([p.1] : (List Int))) p)) >>= fun ys => ofO (catO xs ys)) >>= fun xs => (R.ok sector >>= fun xs => ((R.ok place >>= fun x => R.ok (1 : Int) >>= fun y => .ok (x + y)) >>= fun i => .ok (some i)) >>= fun i => R.ok none >>= fun j => .ok (cutL xs i j)) >>= fun ys => ofO (catO xs ys)) >>= fun r => .ok (r)))
theorem ok__law_spoilt (Tx : Tx K mg) : FnOk P w K mg base (L2.CX P w) 1 Tx.a__law_spoilt Tx.d__law_spoilt ["sector", "place", "draw"]
    (SpF ⟨K, mg⟩ (fun p : (List Int) × Int × Int × Unit => [D.tup ((p.1).map D.int), D.int p.2.1, D.int p.2.2.1]) (fun r : (List Int) => .imm (D.tup ((r).map D.int))) (fun p => _law_spoilt p.1 p.2.1 p.2.2.1)) := by
  refine fn_pure Tx.F__law_spoilt sc__law_spoilt (fun _ => rfl) fun cdv A outer s H E hr p => ?_
  obtain ⟨sector, place, draw, _⟩ := p
  exact bk_cons (st_set 3 (df_of_dd (dd_modC (dd_intI (dd_add (dd_add (dd_ixT (ei := D.int) (dd_var (emb := (fun xs : (List Int) => D.tup (xs.map D.int))) 0 rfl) (dd_var (emb := D.int) 1 rfl)) dd_int) (dd_modC (dd_intI (dd_var (emb := D.int) 2 rfl) Tx.b_int) dd_int (by decide))) Tx.b_int) dd_int (by decide))) trivial rfl sc__law_spoilt.nd) fun octet_1 => bk_ret (df_of_dd (dd_catT (ei := D.int) (dd_catT (ei := D.int) (dd_slT (ei := D.int) (dd_var (emb := (fun xs : (List Int) => D.tup (xs.map D.int))) 0 rfl) do_none (do_some (dd_var (emb := D.int) 1 rfl))) (dd_tup (et := (fun xs : (List Int) => D.tup (xs.map D.int))) (da_cons (dd_var (emb := D.int) 3 rfl) da_nil) (fun p : Int × Unit => ([p.1] : (List Int))))) (dd_slT (ei := D.int) (dd_var (emb := (fun xs : (List Int) => D.tup (xs.map D.int))) 0 rfl) (do_some (dd_add (dd_var (emb := D.int) 1 rfl) dd_int)) do_none))) (g := fun r => r) (fun _ => rfl) trivial trivial

theorem sc_join_halves : FnScope ["left", "right"] ["left", "right"] (defScope s_join_halves) := ⟨rfl, rfl, rfl, by decide +kernel, rfl, by decide +kernel, by decide +kernel⟩
noncomputable def join_halves (left : (Str × Int × (List Int))) (right : (Str × Int × (List Int))) : R (Str × Int × (List Int)) :=
  ((((R.ok left >>= fun x => .ok ((fun p : (Str × Int × (List Int)) => p.1) x)) >>= fun x => R.ok ("rotten" : Str) >>= fun y => .ok (decide (x = y))) >>= fun x => if x then .ok true else ((R.ok right >>= fun x => .ok ((fun p : (Str × Int × (List Int)) => p.1) x)) >>= fun x => R.ok ("rotten" : Str) >>= fun y => .ok (decide (x = y)))) >>= fun x => if x then (((R.ok ("rotten" : Str) >>= fun x => (R.ok (0 : Int) >>= fun x => ((R.ok () >>= fun p => .ok ((fun p : Unit => ([] : (List Int))) p)) >>= fun x => R.ok () >>= fun y => .ok (x, y)) >>= fun y => .ok (x, y)) >>= fun y => .ok (x, y)) >>= fun p => .ok ((fun p : Str × Int × (List Int) × Unit => ((p.1, p.2.1, p.2.2.1) : (Str × Int × (List Int)))) p)) >>= fun r => .ok (r)) else ((((R.ok left >>= fun x => .ok ((fun p : (Str × Int × (List Int)) => p.1) x)) >>= fun x => R.ok ("blank" : Str) >>= fun y => .ok (decide (x = y))) >>= fun x => if x then ((R.ok right >>= fun x => .ok ((fun p : (Str × Int × (List Int)) => p.1) x)) >>= fun x => R.ok ("blank" : Str) >>= fun y => .ok (decide (x = y))) else .ok false) >>= fun x => if x then (((R.ok ("blank" : Str) >>= fun x => (R.ok (0 : Int) >>= fun x => ((R.ok () >>= fun p => .ok ((fun p : Unit => ([] : (List Int))) p)) >>= fun x => R.ok () >>= fun y => .ok (x, y)) >>= fun y => .ok (x, y)) >>= fun y => .ok (x, y)) >>= fun p => .ok ((fun p : Str × Int × (List Int) × Unit => ((p.1, p.2.1, p.2.2.1) : (Str × Int × (List Int)))) p)) >>= fun r => .ok (r)) else ((((R.ok left >>= fun x => .ok ((fun p : (Str × Int × (List Int)) => p.1) x)) >>= fun x => R.ok ("good" : Str) >>= fun y => .ok (decide (x = y))) >>= fun x => if x then (((R.ok right >>= fun x => .ok ((fun p : (Str × Int × (List Int)) => p.1) x)) >>= fun x => R.ok ("good" : Str) >>= fun y => .ok (decide (x = y))) >>= fun x => if x then ((R.ok left >>= fun x => .ok ((fun p : (Str × Int × (List Int)) => p.2.1) x)) >>= fun x => (R.ok right >>= fun x => .ok ((fun p : (Str × Int × (List Int)) => p.2.1) x)) >>= fun y => .ok (decide (x = y))) else .ok false) else .ok false) >>= fun x => if x then (((R.ok ("good" : Str) >>= fun x => ((R.ok left >>= fun x => .ok ((fun p : (Str × Int × (List Int)) => p.2.1) x)) >>= fun x => (((R.ok left >>= fun x => .ok ((fun p : (Str × Int × (List Int)) => p.2.2) x)) >>= fun xs => (R.ok right >>= fun x => .ok ((fun p : (Str × Int × (List Int)) => p.2.2) x)) >>= fun ys => ofO (catO xs ys)) >>= fun x => R.ok () >>= fun y => .ok (x, y)) >>= fun y => .ok (x, y)) >>= fun y => .ok (x, y)) >>= fun p => .ok ((fun p : Str × Int × (List Int) × Unit => ((p.1, p.2.1, p.2.2.1) : (Str × Int × (List Int)))) p)) >>= fun r => .ok (r)) else (((R.ok ("torn" : Str) >>= fun x => (R.ok (0 : Int) >>= fun x => ((R.ok () >>= fun p => .ok ((fun p : Unit => ([] : (List Int))) p)) >>= fun x => R.ok () >>= fun y => .ok (x, y)) >>= fun y => .ok (x, y)) >>= fun y => .ok (x, y)) >>= fun p => .ok ((fun p : Str × Int × (List Int) × Unit => ((p.1, p.2.1, p.2.2.1) : (Str × Int × (List Int)))) p)) >>= fun r => .ok (r)))))
theorem ok_join_halves (Tx : Tx K mg) : FnOk P w K mg base (L2.CX P w) 1 Tx.a_join_halves Tx.d_join_halves ["left", "right"]
    (SpF ⟨K, mg⟩ (fun p : (Str × Int × (List Int)) × (Str × Int × (List Int)) × Unit => [D.tup [D.str p.1.1, D.int p.1.2.1, D.tup ((p.1.2.2).map D.int)], D.tup [D.str p.2.1.1, D.int p.2.1.2.1, D.tup ((p.2.1.2.2).map D.int)]]) (fun r : (Str × Int × (List Int)) => .imm (D.tup [D.str r.1, D.int r.2.1, D.tup ((r.2.2).map D.int)])) (fun p => join_halves p.1 p.2.1)) := by
  refine fn_pure Tx.F_join_halves sc_join_halves (fun _ => rfl) fun cdv A outer s H E hr p => ?_
  obtain ⟨left, right, _⟩ := p
  exact bk_ifX (dt_dw (dw_or (dt_eqS (dd_ixP (ei := D.str) (dd_var (emb := (fun p : (Str × Int × (List Int)) => D.tup [D.str p.1, D.int p.2.1, D.tup ((p.2.2).map D.int)])) 0 rfl) (fun p : (Str × Int × (List Int)) => [D.str p.1, D.int p.2.1, D.tup ((p.2.2).map D.int)]) (fun p : (Str × Int × (List Int)) => p.1)) dd_str) (dw_one (dt_eqS (dd_ixP (ei := D.str) (dd_var (emb := (fun p : (Str × Int × (List Int)) => D.tup [D.str p.1, D.int p.2.1, D.tup ((p.2.2).map D.int)])) 1 rfl) (fun p : (Str × Int × (List Int)) => [D.str p.1, D.int p.2.1, D.tup ((p.2.2).map D.int)]) (fun p : (Str × Int × (List Int)) => p.1)) dd_str) (by first | exact .inl rfl | exact .inr rfl)))) (bk_ret (df_of_dd (dd_tup (et := (fun p : (Str × Int × (List Int)) => D.tup [D.str p.1, D.int p.2.1, D.tup ((p.2.2).map D.int)])) (da_cons dd_str (da_cons dd_int (da_cons (dd_tup (et := (fun xs : (List Int) => D.tup (xs.map D.int))) da_nil (fun p : Unit => ([] : (List Int)))) da_nil))) (fun p : Str × Int × (List Int) × Unit => ((p.1, p.2.1, p.2.2.1) : (Str × Int × (List Int)))))) (g := fun r => r) (fun _ => rfl) trivial trivial) (bk_ifX (dt_dw (dw_and (dt_eqS (dd_ixP (ei := D.str) (dd_var (emb := (fun p : (Str × Int × (List Int)) => D.tup [D.str p.1, D.int p.2.1, D.tup ((p.2.2).map D.int)])) 0 rfl) (fun p : (Str × Int × (List Int)) => [D.str p.1, D.int p.2.1, D.tup ((p.2.2).map D.int)]) (fun p : (Str × Int × (List Int)) => p.1)) dd_str) (dw_one (dt_eqS (dd_ixP (ei := D.str) (dd_var (emb := (fun p : (Str × Int × (List Int)) => D.tup [D.str p.1, D.int p.2.1, D.tup ((p.2.2).map D.int)])) 1 rfl) (fun p : (Str × Int × (List Int)) => [D.str p.1, D.int p.2.1, D.tup ((p.2.2).map D.int)]) (fun p : (Str × Int × (List Int)) => p.1)) dd_str) (by first | exact .inl rfl | exact .inr rfl)))) (bk_ret (df_of_dd (dd_tup (et := (fun p : (Str × Int × (List Int)) => D.tup [D.str p.1, D.int p.2.1, D.tup ((p.2.2).map D.int)])) (da_cons dd_str (da_cons dd_int (da_cons (dd_tup (et := (fun xs : (List Int) => D.tup (xs.map D.int))) da_nil (fun p : Unit => ([] : (List Int)))) da_nil))) (fun p : Str × Int × (List Int) × Unit => ((p.1, p.2.1, p.2.2.1) : (Str × Int × (List Int)))))) (g := fun r => r) (fun _ => rfl) trivial trivial) (bk_ifX (dt_dw (dw_and (dt_eqS (dd_ixP (ei := D.str) (dd_var (emb := (fun p : (Str × Int × (List Int)) => D.tup [D.str p.1, D.int p.2.1, D.tup ((p.2.2).map D.int)])) 0 rfl) (fun p : (Str × Int × (List Int)) => [D.str p.1, D.int p.2.1, D.tup ((p.2.2).map D.int)]) (fun p : (Str × Int × (List Int)) => p.1)) dd_str) (dw_and (dt_eqS (dd_ixP (ei := D.str) (dd_var (emb := (fun p : (Str × Int × (List Int)) => D.tup [D.str p.1, D.int p.2.1, D.tup ((p.2.2).map D.int)])) 1 rfl) (fun p : (Str × Int × (List Int)) => [D.str p.1, D.int p.2.1, D.tup ((p.2.2).map D.int)]) (fun p : (Str × Int × (List Int)) => p.1)) dd_str) (dw_one (dt_eqI (dd_ixP (ei := D.int) (dd_var (emb := (fun p : (Str × Int × (List Int)) => D.tup [D.str p.1, D.int p.2.1, D.tup ((p.2.2).map D.int)])) 0 rfl) (fun p : (Str × Int × (List Int)) => [D.str p.1, D.int p.2.1, D.tup ((p.2.2).map D.int)]) (fun p : (Str × Int × (List Int)) => p.2.1)) (dd_ixP (ei := D.int) (dd_var (emb := (fun p : (Str × Int × (List Int)) => D.tup [D.str p.1, D.int p.2.1, D.tup ((p.2.2).map D.int)])) 1 rfl) (fun p : (Str × Int × (List Int)) => [D.str p.1, D.int p.2.1, D.tup ((p.2.2).map D.int)]) (fun p : (Str × Int × (List Int)) => p.2.1))) (by first | exact .inl rfl | exact .inr rfl))))) (bk_ret (df_of_dd (dd_tup (et := (fun p : (Str × Int × (List Int)) => D.tup [D.str p.1, D.int p.2.1, D.tup ((p.2.2).map D.int)])) (da_cons dd_str (da_cons (dd_ixP (ei := D.int) (dd_var (emb := (fun p : (Str × Int × (List Int)) => D.tup [D.str p.1, D.int p.2.1, D.tup ((p.2.2).map D.int)])) 0 rfl) (fun p : (Str × Int × (List Int)) => [D.str p.1, D.int p.2.1, D.tup ((p.2.2).map D.int)]) (fun p : (Str × Int × (List Int)) => p.2.1)) (da_cons (dd_catT (ei := D.int) (dd_ixP (ei := (fun xs : (List Int) => D.tup (xs.map D.int))) (dd_var (emb := (fun p : (Str × Int × (List Int)) => D.tup [D.str p.1, D.int p.2.1, D.tup ((p.2.2).map D.int)])) 0 rfl) (fun p : (Str × Int × (List Int)) => [D.str p.1, D.int p.2.1, D.tup ((p.2.2).map D.int)]) (fun p : (Str × Int × (List Int)) => p.2.2)) (dd_ixP (ei := (fun xs : (List Int) => D.tup (xs.map D.int))) (dd_var (emb := (fun p : (Str × Int × (List Int)) => D.tup [D.str p.1, D.int p.2.1, D.tup ((p.2.2).map D.int)])) 1 rfl) (fun p : (Str × Int × (List Int)) => [D.str p.1, D.int p.2.1, D.tup ((p.2.2).map D.int)]) (fun p : (Str × Int × (List Int)) => p.2.2))) da_nil))) (fun p : Str × Int × (List Int) × Unit => ((p.1, p.2.1, p.2.2.1) : (Str × Int × (List Int)))))) (g := fun r => r) (fun _ => rfl) trivial trivial) (bk_ret (df_of_dd (dd_tup (et := (fun p : (Str × Int × (List Int)) => D.tup [D.str p.1, D.int p.2.1, D.tup ((p.2.2).map D.int)])) (da_cons dd_str (da_cons dd_int (da_cons (dd_tup (et := (fun xs : (List Int) => D.tup (xs.map D.int))) da_nil (fun p : Unit => ([] : (List Int)))) da_nil))) (fun p : Str × Int × (List Int) × Unit => ((p.1, p.2.1, p.2.2.1) : (Str × Int × (List Int)))))) (g := fun r => r) (fun _ => rfl) trivial trivial) trivial) trivial) trivial

theorem sc_from_octets : FnScope ["octets", "number", "octet"] ["octets"] (defScope s_from_octets) := ⟨rfl, rfl, rfl, by decide +kernel, rfl, by decide +kernel, by decide +kernel⟩
noncomputable def from_octets (octets : (List Int)) : R Int :=
  (R.ok (0 : Int) >>= fun number_1 => ((R.ok octets >>= fun xs => forS (fun (x_3 : Int) (s_2 : Int) => (((R.ok s_2 >>= fun x => .ok (x * 256)) >>= fun x => R.ok x_3 >>= fun y => .ok (x + y)) >>= fun number_4 => R.ok number_4)) xs number_1) >>= fun s_5 : Int => (R.ok s_5 >>= fun r => .ok (r))))
theorem ok_from_octets (Tx : Tx K mg) : FnOk P w K mg base (L2.CX P w) 1 Tx.a_from_octets Tx.d_from_octets ["octets"]
    (SpF ⟨K, mg⟩ (fun p : (List Int) × Unit => [D.tup ((p.1).map D.int)]) (fun r : Int => .imm (D.int r)) (fun p => from_octets p.1)) := by
  refine fn_pure Tx.F_from_octets sc_from_octets (fun _ => rfl) fun cdv A outer s H E hr p => ?_
  obtain ⟨octets, _⟩ := p
  exact bk_cons (st_set 1 (df_of_dd dd_int) trivial rfl sc_from_octets.nd) fun number_1 => bk_cons (Γ1 := fun s_2 : Int => [.ow (.imm (D.tup ((octets).map D.int))), .ow (.imm (D.int s_2)), .un]) (st_forS (Γs := fun s_2 : Int => [.ow (.imm (D.tup ((octets).map D.int))), .ow (.imm (D.int s_2)), .un]) (ei := D.int) number_1 (passes_of rfl) rfl (di_tup (ei := D.int) (dd_var (emb := (fun xs : (List Int) => D.tup (xs.map D.int))) 0 rfl)) (fun s_2 x_3 => (dg_name 2 sc_from_octets.nd)) (fun s_2 x_3 => bk_cons (st_set 1 (df_of_dd (dd_add (dd_mulC (dd_var (emb := D.int) 1 rfl) dd_int (by decide)) (dd_var (emb := D.int) 2 rfl))) trivial rfl sc_from_octets.nd) fun number_4 => bk_nil (o := number_4) rfl ⟨rfl, rfl, trivial⟩) ⟨rfl, rfl, trivial⟩ trivial) fun s_5 => bk_ret (df_of_dd (dd_var (emb := D.int) 1 rfl)) (g := fun r => r) (fun _ => rfl) trivial trivial

theorem sc_read_half : FnScope ["half", "stamp"] ["half"] (defScope s_read_half) := ⟨rfl, rfl, rfl, by decide +kernel, rfl, by decide +kernel, by decide +kernel⟩
noncomputable def read_half (half : (List Int)) : R (Str × Int × (List Int)) :=
  (((R.ok half >>= fun xs => .ok (xs.any (· != 0))) >>= fun x => .ok !x) >>= fun x => if x then (((R.ok ("blank" : Str) >>= fun x => (R.ok (0 : Int) >>= fun x => ((R.ok () >>= fun p => .ok ((fun p : Unit => ([] : (List Int))) p)) >>= fun x => R.ok () >>= fun y => .ok (x, y)) >>= fun y => .ok (x, y)) >>= fun y => .ok (x, y)) >>= fun p => .ok ((fun p : Str × Int × (List Int) × Unit => ((p.1, p.2.1, p.2.2.1) : (Str × Int × (List Int)))) p)) >>= fun r => .ok (r)) else ((((R.ok half >>= fun xs => (R.ok (1 : Int) >>= fun i => .ok (some i)) >>= fun i => (R.ok (4 : Int) >>= fun i => .ok (some i)) >>= fun j => .ok (cutL xs i j)) >>= fun x => R.ok () >>= fun y => .ok (x, y)) >>= fun p : (List Int) × Unit => (from_octets p.1)) >>= fun stamp_1 => ((((R.ok half >>= fun xs => R.ok (0 : Int) >>= fun i => ofO (atI xs i)) >>= fun x => R.ok (197 : Int) >>= fun y => .ok (!decide (x = y))) >>= fun x => if x then .ok true else ((R.ok stamp_1 >>= fun x => R.ok (0 : Int) >>= fun y => .ok (decide (x = y))) >>= fun x => if x then .ok true else ((((R.ok half >>= fun xs => R.ok none >>= fun i => ((R.ok (16 : Int) >>= fun x => R.ok (1 : Int) >>= fun y => .ok (x - y)) >>= fun i => .ok (some i)) >>= fun j => .ok (cutL xs i j)) >>= fun x => R.ok () >>= fun y => .ok (x, y)) >>= fun p : (List Int) × Unit => (check_octet_v1 p.1)) >>= fun x => (R.ok half >>= fun xs => (R.ok (16 : Int) >>= fun x => R.ok (1 : Int) >>= fun y => .ok (x - y)) >>= fun i => ofO (atI xs i)) >>= fun y => .ok (!decide (x = y))))) >>= fun x => if x then (((R.ok ("rotten" : Str) >>= fun x => (R.ok (0 : Int) >>= fun x => ((R.ok () >>= fun p => .ok ((fun p : Unit => ([] : (List Int))) p)) >>= fun x => R.ok () >>= fun y => .ok (x, y)) >>= fun y => .ok (x, y)) >>= fun y => .ok (x, y)) >>= fun p => .ok ((fun p : Str × Int × (List Int) × Unit => ((p.1, p.2.1, p.2.2.1) : (Str × Int × (List Int)))) p)) >>= fun r => .ok (r)) else (((R.ok ("good" : Str) >>= fun x => (R.ok stamp_1 >>= fun x => ((R.ok half >>= fun xs => (R.ok (4 : Int) >>= fun i => .ok (some i)) >>= fun i => ((R.ok (16 : Int) >>= fun x => R.ok (1 : Int) >>= fun y => .ok (x - y)) >>= fun i => .ok (some i)) >>= fun j => .ok (cutL xs i j)) >>= fun x => R.ok () >>= fun y => .ok (x, y)) >>= fun y => .ok (x, y)) >>= fun y => .ok (x, y)) >>= fun p => .ok ((fun p : Str × Int × (List Int) × Unit => ((p.1, p.2.1, p.2.2.1) : (Str × Int × (List Int)))) p)) >>= fun r => .ok (r)))))
theorem ok_read_half (Tx : Tx K mg) : FnOk P w K mg base (L2.CX P w) 2 Tx.a_read_half Tx.d_read_half ["half"]
    (SpF ⟨K, mg⟩ (fun p : (List Int) × Unit => [D.tup ((p.1).map D.int)]) (fun r : (Str × Int × (List Int)) => .imm (D.tup [D.str r.1, D.int r.2.1, D.tup ((r.2.2).map D.int)])) (fun p => read_half p.1)) := by
  refine fn_pure Tx.F_read_half sc_read_half (fun _ => rfl) fun cdv A outer s H E hr p => ?_
  obtain ⟨half, _⟩ := p
  exact bk_ifX (dt_not (dt_bl (dd_anyT rfl (dd_var (emb := (fun xs : (List Int) => D.tup (xs.map D.int))) 0 rfl) Tx.b_any))) (bk_ret (df_of_dd (dd_tup (et := (fun p : (Str × Int × (List Int)) => D.tup [D.str p.1, D.int p.2.1, D.tup ((p.2.2).map D.int)])) (da_cons dd_str (da_cons dd_int (da_cons (dd_tup (et := (fun xs : (List Int) => D.tup (xs.map D.int))) da_nil (fun p : Unit => ([] : (List Int)))) da_nil))) (fun p : Str × Int × (List Int) × Unit => ((p.1, p.2.1, p.2.2.1) : (Str × Int × (List Int)))))) (g := fun r => r) (fun _ => rfl) trivial trivial) (bk_cons (st_set 1 (df_of_dd (dd_imm (df_call (ok_from_octets Tx) (hr.mono (by decide)) Tx.g_from_octets Tx.F_from_octets.kp Tx.b_from_octets (takes_of rfl rfl rfl rfl) (da_cons (ea := (fun xs : (List Int) => D.tup (xs.map D.int))) (dd_slT (ei := D.int) (dd_var (emb := (fun xs : (List Int) => D.tup (xs.map D.int))) 0 rfl) (do_some dd_int) (do_some dd_int)) da_nil)))) trivial rfl sc_read_half.nd) fun stamp_1 => bk_ifX (dt_dw (dw_or (dt_neI (dd_ixT (ei := D.int) (dd_var (emb := (fun xs : (List Int) => D.tup (xs.map D.int))) 0 rfl) dd_int) (dd_gint Tx.c_MARK)) (dw_or (dt_eqI (dd_var (emb := D.int) 1 rfl) dd_int) (dw_one (dt_neI (dd_imm (df_call (ok_check_octet_v1 Tx) (hr.mono (by decide)) Tx.g_check_octet Tx.F_check_octet.kp Tx.b_check_octet (takes_of rfl rfl rfl rfl) (da_cons (ea := (fun xs : (List Int) => D.tup (xs.map D.int))) (dd_slT (ei := D.int) (dd_var (emb := (fun xs : (List Int) => D.tup (xs.map D.int))) 0 rfl) do_none (do_some (dd_sub (dd_gint Tx.c_HALF) dd_int))) da_nil))) (dd_ixT (ei := D.int) (dd_var (emb := (fun xs : (List Int) => D.tup (xs.map D.int))) 0 rfl) (dd_sub (dd_gint Tx.c_HALF) dd_int))) (by first | exact .inl rfl | exact .inr rfl))))) (bk_ret (df_of_dd (dd_tup (et := (fun p : (Str × Int × (List Int)) => D.tup [D.str p.1, D.int p.2.1, D.tup ((p.2.2).map D.int)])) (da_cons dd_str (da_cons dd_int (da_cons (dd_tup (et := (fun xs : (List Int) => D.tup (xs.map D.int))) da_nil (fun p : Unit => ([] : (List Int)))) da_nil))) (fun p : Str × Int × (List Int) × Unit => ((p.1, p.2.1, p.2.2.1) : (Str × Int × (List Int)))))) (g := fun r => r) (fun _ => rfl) trivial trivial) (bk_ret (df_of_dd (dd_tup (et := (fun p : (Str × Int × (List Int)) => D.tup [D.str p.1, D.int p.2.1, D.tup ((p.2.2).map D.int)])) (da_cons dd_str (da_cons (dd_var (emb := D.int) 1 rfl) (da_cons (dd_tupleT (ei := D.int) (dd_slT (ei := D.int) (dd_var (emb := (fun xs : (List Int) => D.tup (xs.map D.int))) 0 rfl) (do_some dd_int) (do_some (dd_sub (dd_gint Tx.c_HALF) dd_int))) Tx.b_tuple) da_nil))) (fun p : Str × Int × (List Int) × Unit => ((p.1, p.2.1, p.2.2.1) : (Str × Int × (List Int)))))) (g := fun r => r) (fun _ => rfl) trivial trivial) trivial) trivial

theorem sc_read_sector : FnScope ["sector"] ["sector"] (defScope s_read_sector) := ⟨rfl, rfl, rfl, by decide +kernel, rfl, by decide +kernel, by decide +kernel⟩
noncomputable def read_sector (sector : (List Int)) : R (Str × Int × (List Int)) :=
  ((((((R.ok sector >>= fun xs => R.ok none >>= fun i => (R.ok (16 : Int) >>= fun i => .ok (some i)) >>= fun j => .ok (cutL xs i j)) >>= fun x => R.ok () >>= fun y => .ok (x, y)) >>= fun p : (List Int) × Unit => (read_half p.1)) >>= fun x => ((((R.ok sector >>= fun xs => (R.ok (16 : Int) >>= fun i => .ok (some i)) >>= fun i => R.ok none >>= fun j => .ok (cutL xs i j)) >>= fun x => R.ok () >>= fun y => .ok (x, y)) >>= fun p : (List Int) × Unit => (read_half p.1)) >>= fun x => R.ok () >>= fun y => .ok (x, y)) >>= fun y => .ok (x, y)) >>= fun p : (Str × Int × (List Int)) × (Str × Int × (List Int)) × Unit => (join_halves p.1 p.2.1)) >>= fun r => .ok (r))
theorem ok_read_sector (Tx : Tx K mg) : FnOk P w K mg base (L2.CX P w) 3 Tx.a_read_sector Tx.d_read_sector ["sector"]
    (SpF ⟨K, mg⟩ (fun p : (List Int) × Unit => [D.tup ((p.1).map D.int)]) (fun r : (Str × Int × (List Int)) => .imm (D.tup [D.str r.1, D.int r.2.1, D.tup ((r.2.2).map D.int)])) (fun p => read_sector p.1)) := by
  refine fn_pure Tx.F_read_sector sc_read_sector (fun _ => rfl) fun cdv A outer s H E hr p => ?_
  obtain ⟨sector, _⟩ := p
  exact bk_ret (df_of_dd (dd_imm (df_call (ok_join_halves Tx) (hr.mono (by decide)) Tx.g_join_halves Tx.F_join_halves.kp Tx.b_join_halves (takes_of rfl rfl rfl rfl) (da_cons (ea := (fun p : (Str × Int × (List Int)) => D.tup [D.str p.1, D.int p.2.1, D.tup ((p.2.2).map D.int)])) (dd_imm (df_call (ok_read_half Tx) (hr.mono (by decide)) Tx.g_read_half Tx.F_read_half.kp Tx.b_read_half (takes_of rfl rfl rfl rfl) (da_cons (ea := (fun xs : (List Int) => D.tup (xs.map D.int))) (dd_slT (ei := D.int) (dd_var (emb := (fun xs : (List Int) => D.tup (xs.map D.int))) 0 rfl) do_none (do_some (dd_gint Tx.c_HALF))) da_nil))) (da_cons (ea := (fun p : (Str × Int × (List Int)) => D.tup [D.str p.1, D.int p.2.1, D.tup ((p.2.2).map D.int)])) (dd_imm (df_call (ok_read_half Tx) (hr.mono (by decide)) Tx.g_read_half Tx.F_read_half.kp Tx.b_read_half (takes_of rfl rfl rfl rfl) (da_cons (ea := (fun xs : (List Int) => D.tup (xs.map D.int))) (dd_slT (ei := D.int) (dd_var (emb := (fun xs : (List Int) => D.tup (xs.map D.int))) 0 rfl) (do_some (dd_gint Tx.c_HALF)) do_none) da_nil))) da_nil))))) (g := fun r => r) (fun _ => rfl) trivial trivial

theorem sc__law_is_number : FnScope ["value"] ["value"] (defScope s__law_is_number) := ⟨rfl, rfl, rfl, by decide +kernel, rfl, by decide +kernel, by decide +kernel⟩
noncomputable def _law_is_number (value : Int) : R Bool :=
  (((R.ok value >>= fun _ => .ok true) >>= fun x => if x then ((R.ok value >>= fun _ => .ok false) >>= fun x => .ok !x) else .ok false) >>= fun r => .ok (r))
theorem ok__law_is_number (Tx : Tx K mg) : FnOk P w K mg base (L2.CX P w) 1 Tx.a__law_is_number Tx.d__law_is_number ["value"]
    (SpF ⟨K, mg⟩ (fun p : Int × Unit => [D.int p.1]) (fun r : Bool => .imm (D.bl r)) (fun p => _law_is_number p.1)) := by
  refine fn_pure Tx.F__law_is_number sc__law_is_number (fun _ => rfl) fun cdv A outer s H E hr p => ?_
  obtain ⟨value, _⟩ := p
  exact bk_ret (df_of_dd (dd_andB (dd_isi (emb := D.int) (t := "int") (u := "int") (dd_var (emb := D.int) 0 rfl) Tx.b_isinstance Tx.b_int (by decide +kernel) (fun _ => rfl) (by decide +kernel)) (dd_one (dd_notB (dd_isi (emb := D.int) (t := "int") (u := "bool") (dd_var (emb := D.int) 0 rfl) Tx.b_isinstance Tx.b_bool (by decide +kernel) (fun _ => rfl) (by decide +kernel)))))) (g := fun r => r) (fun _ => rfl) trivial trivial

theorem sc__law_octets_only : FnScope ["values", "value"] ["values"] (defScope s__law_octets_only) := ⟨rfl, rfl, rfl, by decide +kernel, rfl, by decide +kernel, by decide +kernel⟩
noncomputable def _law_octets_only (values : (List Int)) : R Bool :=
  (((R.ok values >>= fun xs => compR (fun c_1 : Int => R.ok true) (fun c_1 : Int => (((R.ok c_1 >>= fun x => R.ok () >>= fun y => .ok (x, y)) >>= fun p : Int × Unit => (_law_is_number p.1)) >>= fun x => if x then (R.ok (0 : Int) >>= fun x => R.ok c_1 >>= fun y => if (fun x y : Int => decide (x ≤ y)) x y then R.ok (255 : Int) >>= fun z => .ok ((fun x y : Int => decide (x ≤ y)) y z) else .ok false) else .ok false)) xs) >>= fun xs => .ok (xs.all id)) >>= fun r => .ok (r))
theorem ok__law_octets_only (Tx : Tx K mg) : FnOk P w K mg base (L2.CX P w) 2 Tx.a__law_octets_only Tx.d__law_octets_only ["values"]
    (SpF ⟨K, mg⟩ (fun p : (List Int) × Unit => [D.tup ((p.1).map D.int)]) (fun r : Bool => .imm (D.bl r)) (fun p => _law_octets_only p.1)) := by
  refine fn_pure Tx.F__law_octets_only sc__law_octets_only (fun _ => rfl) fun cdv A outer s H E hr p => ?_
  obtain ⟨values, _⟩ := p
  exact bk_ret (df_of_dd (dd_all rfl (dl_own (ei := D.bl) (db_of_df (df_lc (N' := ["values", "value"]) (sc' := defScope s__law_octets_only) (ei := D.int) (et := fun y => .imm (D.bl y)) [("value", 1)] rfl sc__law_octets_only.nd (di_tup (ei := D.int) (dd_var (emb := (fun xs : (List Int) => D.tup (xs.map D.int))) 0 rfl)) ⟨rfl, trivial⟩ (fun _ _ _ _ _ c_1 => (dgc_name 1 sc__law_octets_only.nd)) (fun _ _ _ _ _ c_1 => dts_nil) (fun _ _ _ _ _ c_1 => df_of_dd (dd_andB (dd_imm (df_call (ok__law_is_number Tx) (hr.mono (by decide)) Tx.g__law_is_number Tx.F__law_is_number.kp Tx.b__law_is_number takes0 (da_cons (dd_var (emb := D.int) 1 rfl) da_nil))) (dd_one (dd_chain (f := (fun x y : Int => decide (x ≤ y))) (g := (fun x y : Int => decide (x ≤ y))) op_le op_le dd_int (dd_var (emb := D.int) 1 rfl) dd_int))))))) Tx.b_all)) (g := fun r => r) (fun _ => rfl) trivial trivial

theorem sc__law_reads : FnScope ["sector", "due", "found"] ["sector", "due"] (defScope s__law_reads) := ⟨rfl, rfl, rfl, by decide +kernel, rfl, by decide +kernel, by decide +kernel⟩
noncomputable def _law_reads (sector : (List Int)) (due : (Str × Int × (List Int))) : R Bool :=
  (((R.ok sector >>= fun x => R.ok () >>= fun y => .ok (x, y)) >>= fun p : (List Int) × Unit => (read_sector p.1)) >>= fun found_1 => ((((R.ok found_1 >>= fun _ => .ok true) >>= fun x => .ok !x) >>= fun x => if x then .ok true else (((R.ok found_1 >>= fun _ => .ok (3 : Int)) >>= fun x => R.ok (3 : Int) >>= fun y => .ok (!decide (x = y))) >>= fun x => if x then .ok true else (((R.ok found_1 >>= fun x => .ok ((fun p : (Str × Int × (List Int)) => p.2.2) x)) >>= fun _ => .ok true) >>= fun x => .ok !x))) >>= fun x => if x then (R.ok false >>= fun r => .ok (r)) else (((R.ok found_1 >>= fun x => R.ok due >>= fun y => ofO ((eqO (D.tup [D.str x.1, D.int x.2.1, D.tup ((x.2.2).map D.int)]) (D.tup [D.str y.1, D.int y.2.1, D.tup ((y.2.2).map D.int)])).map (false != ·))) >>= fun x => if x then ((((R.ok found_1 >>= fun x => .ok ((fun p : (Str × Int × (List Int)) => p.2.1) x)) >>= fun x => R.ok () >>= fun y => .ok (x, y)) >>= fun p : Int × Unit => (_law_is_number p.1)) >>= fun x => if x then (((R.ok found_1 >>= fun x => .ok ((fun p : (Str × Int × (List Int)) => p.2.2) x)) >>= fun x => R.ok () >>= fun y => .ok (x, y)) >>= fun p : (List Int) × Unit => (_law_octets_only p.1)) else .ok false) else .ok false) >>= fun r => .ok (r))))
theorem ok__law_reads (Tx : Tx K mg) : FnOk P w K mg base (L2.CX P w) 4 Tx.a__law_reads Tx.d__law_reads ["sector", "due"]
    (SpF ⟨K, mg⟩ (fun p : (List Int) × (Str × Int × (List Int)) × Unit => [D.tup ((p.1).map D.int), D.tup [D.str p.2.1.1, D.int p.2.1.2.1, D.tup ((p.2.1.2.2).map D.int)]]) (fun r : Bool => .imm (D.bl r)) (fun p => _law_reads p.1 p.2.1)) := by
  refine fn_pure Tx.F__law_reads sc__law_reads (fun _ => rfl) fun cdv A outer s H E hr p => ?_
  obtain ⟨sector, due, _⟩ := p
  exact bk_cons (st_set 2 (df_of_dd (dd_imm (df_call (ok_read_sector Tx) (hr.mono (by decide)) Tx.g_read_sector Tx.F_read_sector.kp Tx.b_read_sector (takes_of rfl rfl rfl rfl) (da_cons (ea := (fun xs : (List Int) => D.tup (xs.map D.int))) (dd_var (emb := (fun xs : (List Int) => D.tup (xs.map D.int))) 0 rfl) da_nil)))) trivial rfl sc__law_reads.nd) fun found_1 => bk_ifX (dt_dw (dw_or (dt_not (dt_bl (dd_isi (emb := (fun p : (Str × Int × (List Int)) => D.tup [D.str p.1, D.int p.2.1, D.tup ((p.2.2).map D.int)])) (t := "tuple") (u := "tuple") (dd_var (emb := (fun p : (Str × Int × (List Int)) => D.tup [D.str p.1, D.int p.2.1, D.tup ((p.2.2).map D.int)])) 2 rfl) Tx.b_isinstance Tx.b_tuple (by decide +kernel) (fun _ => rfl) (by decide +kernel)))) (dw_or (dt_neI (dd_lenP (dd_var (emb := (fun p : (Str × Int × (List Int)) => D.tup [D.str p.1, D.int p.2.1, D.tup ((p.2.2).map D.int)])) 2 rfl) (fun p : (Str × Int × (List Int)) => [D.str p.1, D.int p.2.1, D.tup ((p.2.2).map D.int)]) 3 Tx.b_len) dd_int) (dw_one (dt_not (dt_bl (dd_isi (emb := (fun xs : (List Int) => D.tup (xs.map D.int))) (t := "tuple") (u := "tuple") (dd_ixP (ei := (fun xs : (List Int) => D.tup (xs.map D.int))) (dd_var (emb := (fun p : (Str × Int × (List Int)) => D.tup [D.str p.1, D.int p.2.1, D.tup ((p.2.2).map D.int)])) 2 rfl) (fun p : (Str × Int × (List Int)) => [D.str p.1, D.int p.2.1, D.tup ((p.2.2).map D.int)]) (fun p : (Str × Int × (List Int)) => p.2.2)) Tx.b_isinstance Tx.b_tuple (by decide +kernel) (fun _ => rfl) (by decide +kernel)))) (by first | exact .inl rfl | exact .inr rfl))))) (bk_ret (df_of_dd dd_bl) (g := fun r => r) (fun _ => rfl) trivial trivial) (bk_ret (df_of_dd (dd_andB (dd_eq (ea := (fun p : (Str × Int × (List Int)) => D.tup [D.str p.1, D.int p.2.1, D.tup ((p.2.2).map D.int)])) (eb := (fun p : (Str × Int × (List Int)) => D.tup [D.str p.1, D.int p.2.1, D.tup ((p.2.2).map D.int)])) hr.units (de_dd (dd_var (emb := (fun p : (Str × Int × (List Int)) => D.tup [D.str p.1, D.int p.2.1, D.tup ((p.2.2).map D.int)])) 2 rfl)) (de_dd (dd_var (emb := (fun p : (Str × Int × (List Int)) => D.tup [D.str p.1, D.int p.2.1, D.tup ((p.2.2).map D.int)])) 1 rfl))) (dd_andB (dd_imm (df_call (ok__law_is_number Tx) (hr.mono (by decide)) Tx.g__law_is_number Tx.F__law_is_number.kp Tx.b__law_is_number (takes_of rfl rfl rfl rfl) (da_cons (dd_ixP (ei := D.int) (dd_var (emb := (fun p : (Str × Int × (List Int)) => D.tup [D.str p.1, D.int p.2.1, D.tup ((p.2.2).map D.int)])) 2 rfl) (fun p : (Str × Int × (List Int)) => [D.str p.1, D.int p.2.1, D.tup ((p.2.2).map D.int)]) (fun p : (Str × Int × (List Int)) => p.2.1)) da_nil))) (dd_one (dd_imm (df_call (ok__law_octets_only Tx) (hr.mono (by decide)) Tx.g__law_octets_only Tx.F__law_octets_only.kp Tx.b__law_octets_only (takes_of rfl rfl rfl rfl) (da_cons (ea := (fun xs : (List Int) => D.tup (xs.map D.int))) (dd_ixP (ei := (fun xs : (List Int) => D.tup (xs.map D.int))) (dd_var (emb := (fun p : (Str × Int × (List Int)) => D.tup [D.str p.1, D.int p.2.1, D.tup ((p.2.2).map D.int)])) 2 rfl) (fun p : (Str × Int × (List Int)) => [D.str p.1, D.int p.2.1, D.tup ((p.2.2).map D.int)]) (fun p : (Str × Int × (List Int)) => p.2.2)) da_nil))))))) (g := fun r => r) (fun _ => rfl) trivial trivial) trivial

theorem sc_newest_stamp : FnScope ["sectors", "newest", "sector"] ["sectors"] (defScope s_newest_stamp) := ⟨rfl, rfl, rfl, by decide +kernel, rfl, by decide +kernel, by decide +kernel⟩
noncomputable def newest_stamp (sectors : (List (List Int))) : R Int :=
  (R.ok (0 : Int) >>= fun newest_1 => ((R.ok sectors >>= fun xs => forS (fun (x_3 : (List Int)) (s_2 : Int) => ((R.ok s_2 >>= fun x => ((((R.ok x_3 >>= fun xs => R.ok none >>= fun i => (R.ok (16 : Int) >>= fun i => .ok (some i)) >>= fun j => .ok (cutL xs i j)) >>= fun x => R.ok () >>= fun y => .ok (x, y)) >>= fun p : (List Int) × Unit => (read_half p.1)) >>= fun x => .ok ((fun p : (Str × Int × (List Int)) => p.2.1) x)) >>= fun y => ((((R.ok x_3 >>= fun xs => (R.ok (16 : Int) >>= fun i => .ok (some i)) >>= fun i => R.ok none >>= fun j => .ok (cutL xs i j)) >>= fun x => R.ok () >>= fun y => .ok (x, y)) >>= fun p : (List Int) × Unit => (read_half p.1)) >>= fun x => .ok ((fun p : (Str × Int × (List Int)) => p.2.1) x)) >>= fun z => .ok (if y > x then (if z > y then z else y) else (if z > x then z else x))) >>= fun newest_4 => R.ok newest_4)) xs newest_1) >>= fun s_5 : Int => (R.ok s_5 >>= fun r => .ok (r))))
theorem ok_newest_stamp (Tx : Tx K mg) : FnOk P w K mg base (L2.CX P w) 3 Tx.a_newest_stamp Tx.d_newest_stamp ["sectors"]
    (SpF ⟨K, mg⟩ (fun p : (List (List Int)) × Unit => [D.lst ((p.1).map (fun xs : (List Int) => D.tup (xs.map D.int)))]) (fun r : Int => .imm (D.int r)) (fun p => newest_stamp p.1)) := by
  refine fn_pure Tx.F_newest_stamp sc_newest_stamp (fun _ => rfl) fun cdv A outer s H E hr p => ?_
  obtain ⟨sectors, _⟩ := p
  exact bk_cons (st_set 1 (df_of_dd dd_int) trivial rfl sc_newest_stamp.nd) fun newest_1 => bk_cons (Γ1 := fun s_2 : Int => [.ow (.imm (D.lst ((sectors).map (fun xs : (List Int) => D.tup (xs.map D.int))))), .ow (.imm (D.int s_2)), .un]) (st_forS (Γs := fun s_2 : Int => [.ow (.imm (D.lst ((sectors).map (fun xs : (List Int) => D.tup (xs.map D.int))))), .ow (.imm (D.int s_2)), .un]) (ei := (fun xs : (List Int) => D.tup (xs.map D.int))) newest_1 (passes_of rfl) rfl (di_list (ei := (fun xs : (List Int) => D.tup (xs.map D.int))) (dd_var (emb := (fun xs : (List (List Int)) => D.lst (xs.map (fun xs : (List Int) => D.tup (xs.map D.int))))) 0 rfl)) (fun s_2 x_3 => (dg_name 2 sc_newest_stamp.nd)) (fun s_2 x_3 => bk_cons (st_set 1 (df_of_dd (dd_three_ints (f := fun x y z => if y > x then (if z > y then z else y) else (if z > x then z else x)) (cr_max3 rfl) (dd_var (emb := D.int) 1 rfl) (dd_ixP (ei := D.int) (dd_imm (df_call (ok_read_half Tx) (hr.mono (by decide)) Tx.g_read_half Tx.F_read_half.kp Tx.b_read_half (takes_of rfl rfl rfl rfl) (da_cons (ea := (fun xs : (List Int) => D.tup (xs.map D.int))) (dd_slT (ei := D.int) (dd_var (emb := (fun xs : (List Int) => D.tup (xs.map D.int))) 2 rfl) do_none (do_some (dd_gint Tx.c_HALF))) da_nil))) (fun p : (Str × Int × (List Int)) => [D.str p.1, D.int p.2.1, D.tup ((p.2.2).map D.int)]) (fun p : (Str × Int × (List Int)) => p.2.1)) (dd_ixP (ei := D.int) (dd_imm (df_call (ok_read_half Tx) (hr.mono (by decide)) Tx.g_read_half Tx.F_read_half.kp Tx.b_read_half (takes_of rfl rfl rfl rfl) (da_cons (ea := (fun xs : (List Int) => D.tup (xs.map D.int))) (dd_slT (ei := D.int) (dd_var (emb := (fun xs : (List Int) => D.tup (xs.map D.int))) 2 rfl) (do_some (dd_gint Tx.c_HALF)) do_none) da_nil))) (fun p : (Str × Int × (List Int)) => [D.str p.1, D.int p.2.1, D.tup ((p.2.2).map D.int)]) (fun p : (Str × Int × (List Int)) => p.2.1)) Tx.b_max (by decide +kernel))) trivial rfl sc_newest_stamp.nd) fun newest_4 => bk_nil (o := newest_4) rfl ⟨rfl, rfl, trivial⟩) ⟨rfl, rfl, trivial⟩ trivial) fun s_5 => bk_ret (df_of_dd (dd_var (emb := D.int) 1 rfl)) (g := fun r => r) (fun _ => rfl) trivial trivial

theorem sc__law_half : FnScope ["stamp", "data", "front"] ["stamp", "data"] (defScope s__law_half) := ⟨rfl, rfl, rfl, by decide +kernel, rfl, by decide +kernel, by decide +kernel⟩
noncomputable def _law_half (stamp : Int) (data : (List Int)) : R (List Int) :=
  ((((R.ok (197 : Int) >>= fun x => ((R.ok stamp >>= fun x => .ok (x / 65536)) >>= fun x => (((R.ok stamp >>= fun x => .ok (x / 256)) >>= fun x => .ok (x % 256)) >>= fun x => ((R.ok stamp >>= fun x => .ok (x % 256)) >>= fun x => R.ok () >>= fun y => .ok (x, y)) >>= fun y => .ok (x, y)) >>= fun y => .ok (x, y)) >>= fun y => .ok (x, y)) >>= fun p => .ok ((fun p : Int × Int × Int × Int × Unit => ([p.1, p.2.1, p.2.2.1, p.2.2.2.1] : List Int)) p)) >>= fun xs => R.ok data >>= fun ys => ofO (catO xs ys)) >>= fun front_1 => ((R.ok front_1 >>= fun xs => ((((R.ok front_1 >>= fun xs => .ok (xs.sum)) >>= fun x => .ok (x % 256)) >>= fun x => R.ok () >>= fun y => .ok (x, y)) >>= fun p => .ok ((fun p : Int × Unit => ([p.1] : List Int)) p)) >>= fun ys => ofO (catO xs ys)) >>= fun r => .ok (r)))
theorem ok__law_half (Tx : Tx K mg) : FnOk P w K mg base (L2.CX P w) 1 Tx.a__law_half Tx.d__law_half ["stamp", "data"]
    (SpF ⟨K, mg⟩ (fun p : Int × (List Int) × Unit => [D.int p.1, D.lst ((p.2.1).map D.int)]) (fun r : (List Int) => .imm (D.tup ((r).map D.int))) (fun p => _law_half p.1 p.2.1)) := by
  refine fn_pure Tx.F__law_half sc__law_half (fun _ => rfl) fun cdv A outer s H E hr p => ?_
  obtain ⟨stamp, data, _⟩ := p
  exact bk_cons (st_set 2 (df_cat (ei := D.int) (dlt_own (ei := D.int) (db_of_df (df_disp (ei := D.int) (da_cons dd_int (da_cons (dd_divC (dd_var (emb := D.int) 0 rfl) dd_int (by decide)) (da_cons (dd_modC (dd_intI (dd_divC (dd_var (emb := D.int) 0 rfl) dd_int (by decide)) Tx.b_int) dd_int (by decide)) (da_cons (dd_modC (dd_intI (dd_var (emb := D.int) 0 rfl) Tx.b_int) dd_int (by decide)) da_nil)))) (fun p : Int × Int × Int × Int × Unit => ([p.1, p.2.1, p.2.2.1, p.2.2.2.1] : List Int))))) (dlt_own (ei := D.int) (db_of_df (df_listL (ei := D.int) (dl_imm (ei := D.int) (dd_var (emb := (fun xs : (List Int) => D.lst (xs.map D.int))) 1 rfl)) Tx.b_list)))) trivial rfl sc__law_half.nd) fun front_1 => bk_ret (df_of_dd (dd_tupleL (ei := D.int) (dl_own (ei := D.int) (db_of_df (df_cat (ei := D.int) (dlt_own (ei := D.int) (db_var (emb := (fun xs : (List Int) => T.lst (xs.map fun x => T.imm (D.int x)))) 2 rfl)) (dlt_own (ei := D.int) (db_of_df (df_disp (ei := D.int) (da_cons (dd_modC (dd_intI (dd_sum rfl (dl_own (ei := D.int) (db_var (emb := (fun xs : (List Int) => T.lst (xs.map fun x => T.imm (D.int x)))) 2 rfl)) Tx.b_sum) Tx.b_int) dd_int (by decide)) da_nil) (fun p : Int × Unit => ([p.1] : List Int)))))))) Tx.b_tuple)) (g := fun r => r) (fun _ => rfl) trivial trivial

theorem sc__law_sector : FnScope ["stamp", "data", "full"] ["stamp", "data"] (defScope s__law_sector) := ⟨rfl, rfl, rfl, by decide +kernel, rfl, by decide +kernel, by decide +kernel⟩
noncomputable def _law_sector (stamp : Int) (data : (List Int)) : R (List Int) :=
  ((R.ok data >>= fun xs => (((R.ok (0 : Int) >>= fun x => R.ok () >>= fun y => .ok (x, y)) >>= fun p => .ok ((fun p : Int × Unit => ([p.1] : List Int)) p)) >>= fun xs => (R.ok (22 : Int) >>= fun x => (R.ok data >>= fun xs => .ok (xs.length : Int)) >>= fun y => .ok (x - y)) >>= fun k => ofO (repO xs k)) >>= fun ys => ofO (catO xs ys)) >>= fun full_1 => ((((R.ok stamp >>= fun x => ((R.ok full_1 >>= fun xs => R.ok none >>= fun i => (R.ok (11 : Int) >>= fun i => .ok (some i)) >>= fun j => .ok (cutL xs i j)) >>= fun x => R.ok () >>= fun y => .ok (x, y)) >>= fun y => .ok (x, y)) >>= fun p : Int × (List Int) × Unit => (_law_half p.1 p.2.1)) >>= fun xs => ((R.ok stamp >>= fun x => ((R.ok full_1 >>= fun xs => (R.ok (11 : Int) >>= fun i => .ok (some i)) >>= fun i => R.ok none >>= fun j => .ok (cutL xs i j)) >>= fun x => R.ok () >>= fun y => .ok (x, y)) >>= fun y => .ok (x, y)) >>= fun p : Int × (List Int) × Unit => (_law_half p.1 p.2.1)) >>= fun ys => ofO (catO xs ys)) >>= fun r => .ok (r)))
theorem ok__law_sector (Tx : Tx K mg) : FnOk P w K mg base (L2.CX P w) 2 Tx.a__law_sector Tx.d__law_sector ["stamp", "data"]
    (SpF ⟨K, mg⟩ (fun p : Int × (List Int) × Unit => [D.int p.1, D.lst ((p.2.1).map D.int)]) (fun r : (List Int) => .imm (D.tup ((r).map D.int))) (fun p => _law_sector p.1 p.2.1)) := by
  refine fn_pure Tx.F__law_sector sc__law_sector (fun _ => rfl) fun cdv A outer s H E hr p => ?_
  obtain ⟨stamp, data, _⟩ := p
  exact bk_cons (st_set 2 (df_cat (ei := D.int) (dlt_own (ei := D.int) (db_of_df (df_listL (ei := D.int) (dl_imm (ei := D.int) (dd_var (emb := (fun xs : (List Int) => D.lst (xs.map D.int))) 1 rfl)) Tx.b_list))) (dlt_own (ei := D.int) (db_of_df (df_rep (ei := D.int) (dlt_own (ei := D.int) (db_of_df (df_disp (ei := D.int) (da_cons dd_int da_nil) (fun p : Int × Unit => ([p.1] : List Int))))) (dd_sub dd_int (dd_lenL (ei := D.int) (dl_imm (ei := D.int) (dd_var (emb := (fun xs : (List Int) => D.lst (xs.map D.int))) 1 rfl)) Tx.b_len)))))) trivial rfl sc__law_sector.nd) fun full_1 => bk_ret (df_of_dd (dd_catT (ei := D.int) (dd_imm (df_call (ok__law_half Tx) (hr.mono (by decide)) Tx.g__law_half Tx.F__law_half.kp Tx.b__law_half (takes_of rfl rfl rfl rfl) (da_cons (dd_var (emb := D.int) 0 rfl) (da_cons (ea := (fun xs : (List Int) => D.lst (xs.map D.int))) (dd_list (ε := D.int) (df_slL (ei := D.int) (dl_own (ei := D.int) (db_var (emb := (fun xs : (List Int) => T.lst (xs.map fun x => T.imm (D.int x)))) 2 rfl)) do_none (do_some dd_int))) da_nil)))) (dd_imm (df_call (ok__law_half Tx) (hr.mono (by decide)) Tx.g__law_half Tx.F__law_half.kp Tx.b__law_half (takes_of rfl rfl rfl rfl) (da_cons (dd_var (emb := D.int) 0 rfl) (da_cons (ea := (fun xs : (List Int) => D.lst (xs.map D.int))) (dd_list (ε := D.int) (df_slL (ei := D.int) (dl_own (ei := D.int) (db_var (emb := (fun xs : (List Int) => T.lst (xs.map fun x => T.imm (D.int x)))) 2 rfl)) (do_some dd_int) do_none)) da_nil)))))) (g := fun r => r) (fun _ => rfl) trivial trivial

theorem sc__law_rotten_all : FnScope ["sectors", "draws", "k", "place"] ["sectors", "draws"] (defScope s__law_rotten_all) := ⟨rfl, rfl, rfl, by decide +kernel, rfl, by decide +kernel, by decide +kernel⟩
noncomputable def _law_rotten_all (sectors : (List (List Int))) (draws : (List Int)) : R Bool :=
  ((((R.ok sectors >>= fun xs => .ok (xs.length : Int)) >>= fun n => ofO (rangeO 0 n)) >>= fun xs => forX (fun (x_2 : Int) (s_1 : Unit) => (((R.ok draws >>= fun xs => R.ok x_2 >>= fun i => ofO (atI xs i)) >>= fun x => .ok (x % 32)) >>= fun place_3 => (((((((R.ok sectors >>= fun xs => R.ok x_2 >>= fun i => ofO (atI xs i)) >>= fun x => (R.ok place_3 >>= fun x => ((R.ok draws >>= fun xs => (R.ok x_2 >>= fun x => R.ok (8 : Int) >>= fun y => .ok (x + y)) >>= fun i => ofO (atI xs i)) >>= fun x => R.ok () >>= fun y => .ok (x, y)) >>= fun y => .ok (x, y)) >>= fun y => .ok (x, y)) >>= fun p : (List Int) × Int × Int × Unit => (_law_spoilt p.1 p.2.1 p.2.2.1)) >>= fun x => (((R.ok ("rotten" : Str) >>= fun x => (R.ok (0 : Int) >>= fun x => ((R.ok () >>= fun p => .ok ((fun p : Unit => ([] : (List Int))) p)) >>= fun x => R.ok () >>= fun y => .ok (x, y)) >>= fun y => .ok (x, y)) >>= fun y => .ok (x, y)) >>= fun p => .ok ((fun p : Str × Int × (List Int) × Unit => ((p.1, p.2.1, p.2.2.1) : (Str × Int × (List Int)))) p)) >>= fun x => R.ok () >>= fun y => .ok (x, y)) >>= fun y => .ok (x, y)) >>= fun p : (List Int) × (Str × Int × (List Int)) × Unit => (_law_reads p.1 p.2.1)) >>= fun x => .ok !x) >>= fun x => if x then (R.ok false >>= fun r => .ok (Lo.ex (r))) else R.ok (Lo.nx ())))) xs ()) >>= sumK (fun s_4 : Unit => (R.ok true >>= fun r => .ok (r))) .ok)
theorem ok__law_rotten_all (Tx : Tx K mg) : FnOk P w K mg base (L2.CX P w) 5 Tx.a__law_rotten_all Tx.d__law_rotten_all ["sectors", "draws"]
    (SpF ⟨K, mg⟩ (fun p : (List (List Int)) × (List Int) × Unit => [D.lst ((p.1).map (fun xs : (List Int) => D.tup (xs.map D.int))), D.lst ((p.2.1).map D.int)]) (fun r : Bool => .imm (D.bl r)) (fun p => _law_rotten_all p.1 p.2.1)) := by
  refine fn_pure Tx.F__law_rotten_all sc__law_rotten_all (fun _ => rfl) fun cdv A outer s H E hr p => ?_
  obtain ⟨sectors, draws, _⟩ := p
  exact bk_consX (Γ1 := fun s_1 : Unit => [.ow (.imm (D.lst ((sectors).map (fun xs : (List Int) => D.tup (xs.map D.int))))), .ow (.imm (D.lst ((draws).map D.int))), .un, .un]) (st_rr (st_for (Γs := fun s_1 : Unit => [.ow (.imm (D.lst ((sectors).map (fun xs : (List Int) => D.tup (xs.map D.int))))), .ow (.imm (D.lst ((draws).map D.int))), .un, .un]) (ei := D.int) () (passes_of rfl) rfl (di_range1 (dd_lenL (ei := (fun xs : (List Int) => D.tup (xs.map D.int))) (dl_imm (ei := (fun xs : (List Int) => D.tup (xs.map D.int))) (dd_var (emb := (fun xs : (List (List Int)) => D.lst (xs.map (fun xs : (List Int) => D.tup (xs.map D.int))))) 0 rfl)) Tx.b_len) Tx.b_range) (fun s_1 x_2 => (dg_name 2 sc__law_rotten_all.nd)) (fun s_1 x_2 => bk_cons (st_set 3 (df_of_dd (dd_modC (dd_intI (dd_ixL (ei := D.int) (dl_imm (ei := D.int) (dd_var (emb := (fun xs : (List Int) => D.lst (xs.map D.int))) 1 rfl)) (dd_var (emb := D.int) 2 rfl)) Tx.b_int) dd_int (by decide))) trivial rfl sc__law_rotten_all.nd) fun place_3 => bk_ifX (dt_not (dt_bl (dd_imm (df_call (ok__law_reads Tx) (hr.mono (by decide)) Tx.g__law_reads Tx.F__law_reads.kp Tx.b__law_reads (takes_of rfl rfl rfl rfl) (da_cons (ea := (fun xs : (List Int) => D.tup (xs.map D.int))) (dd_imm (df_call (ok__law_spoilt Tx) (hr.mono (by decide)) Tx.g__law_spoilt Tx.F__law_spoilt.kp Tx.b__law_spoilt (takes_of rfl rfl rfl rfl) (da_cons (ea := (fun xs : (List Int) => D.tup (xs.map D.int))) (dd_ixL (ei := (fun xs : (List Int) => D.tup (xs.map D.int))) (dl_imm (ei := (fun xs : (List Int) => D.tup (xs.map D.int))) (dd_var (emb := (fun xs : (List (List Int)) => D.lst (xs.map (fun xs : (List Int) => D.tup (xs.map D.int))))) 0 rfl)) (dd_var (emb := D.int) 2 rfl)) (da_cons (dd_var (emb := D.int) 3 rfl) (da_cons (dd_ixL (ei := D.int) (dl_imm (ei := D.int) (dd_var (emb := (fun xs : (List Int) => D.lst (xs.map D.int))) 1 rfl)) (dd_add (dd_var (emb := D.int) 2 rfl) dd_int)) da_nil))))) (da_cons (ea := (fun p : (Str × Int × (List Int)) => D.tup [D.str p.1, D.int p.2.1, D.tup ((p.2.2).map D.int)])) (dd_tup (et := (fun p : (Str × Int × (List Int)) => D.tup [D.str p.1, D.int p.2.1, D.tup ((p.2.2).map D.int)])) (da_cons dd_str (da_cons dd_int (da_cons (dd_tup (et := (fun xs : (List Int) => D.tup (xs.map D.int))) da_nil (fun p : Unit => ([] : (List Int)))) da_nil))) (fun p : Str × Int × (List Int) × Unit => ((p.1, p.2.1, p.2.2.1) : (Str × Int × (List Int))))) da_nil)))))) (bk_ret (df_of_dd dd_bl) (g := fun r => Lo.ex (r)) (fun _ => rfl) trivial trivial) (bk_nil (o := (Lo.nx ())) rfl ⟨rfl, rfl, trivial⟩) trivial) ⟨rfl, rfl, trivial⟩ trivial)) fun s_4 => bk_ret (df_of_dd dd_bl) (g := fun r => r) (fun _ => rfl) trivial trivial

theorem sc_law : FnScope ["script", "draws", "first", "second", "data", "more", "one", "two", "blank", "torn", "sector", "spoilt", "k"] ["script"] (defScope s_law) := ⟨rfl, rfl, rfl, by decide +kernel, rfl, by decide +kernel, by decide +kernel⟩
noncomputable def law (script : (List Int)) : R Bool :=
  (((R.ok script >>= fun x => (R.ok (90 : Int) >>= fun x => R.ok () >>= fun y => .ok (x, y)) >>= fun y => .ok (x, y)) >>= fun p : (List Int) × Int × Unit => (_law_draws p.1 p.2.1)) >>= fun draws_1 => ((((R.ok draws_1 >>= fun xs => R.ok (0 : Int) >>= fun i => ofO (atI xs i)) >>= fun x => ((R.ok draws_1 >>= fun xs => R.ok (1 : Int) >>= fun i => ofO (atI xs i)) >>= fun x => R.ok () >>= fun y => .ok (x, y)) >>= fun y => .ok (x, y)) >>= fun p : Int × Int × Unit => (_law_stamp p.1 p.2.1)) >>= fun first_2 => ((((R.ok draws_1 >>= fun xs => R.ok (2 : Int) >>= fun i => ofO (atI xs i)) >>= fun x => ((R.ok draws_1 >>= fun xs => R.ok (3 : Int) >>= fun i => ofO (atI xs i)) >>= fun x => R.ok () >>= fun y => .ok (x, y)) >>= fun y => .ok (x, y)) >>= fun p : Int × Int × Unit => (_law_stamp p.1 p.2.1)) >>= fun second_3 => (((R.ok second_3 >>= fun x => R.ok first_2 >>= fun y => .ok (decide (x = y))) >>= fun x => if x then ((R.ok (1 : Int) >>= fun x => (R.ok first_2 >>= fun x => .ok (x % 16777215)) >>= fun y => .ok (x + y)) >>= fun second_5 => R.ok second_5) else R.ok second_3) >>= fun j_4 : Int => (((((R.ok draws_1 >>= fun xs => R.ok (4 : Int) >>= fun i => ofO (atI xs i)) >>= fun x => .ok (x % 23)) >>= fun n => ofO (rangeO 0 n)) >>= fun xs => compR (fun c_7 : Int => R.ok true) (fun c_7 : Int => ((R.ok draws_1 >>= fun xs => (R.ok (10 : Int) >>= fun x => R.ok c_7 >>= fun y => .ok (x + y)) >>= fun i => ofO (atI xs i)) >>= fun x => .ok (x % 256))) xs) >>= fun data_6 => (((((R.ok draws_1 >>= fun xs => R.ok (5 : Int) >>= fun i => ofO (atI xs i)) >>= fun x => .ok (x % 23)) >>= fun n => ofO (rangeO 0 n)) >>= fun xs => compR (fun c_9 : Int => R.ok true) (fun c_9 : Int => ((R.ok draws_1 >>= fun xs => (R.ok (34 : Int) >>= fun x => R.ok c_9 >>= fun y => .ok (x + y)) >>= fun i => ofO (atI xs i)) >>= fun x => .ok (x % 256))) xs) >>= fun more_8 => (((R.ok first_2 >>= fun x => (R.ok data_6 >>= fun x => R.ok () >>= fun y => .ok (x, y)) >>= fun y => .ok (x, y)) >>= fun p : Int × (List Int) × Unit => (seal_v0 p.1 p.2.1)) >>= fun one_10 => (((R.ok j_4 >>= fun x => (R.ok more_8 >>= fun x => R.ok () >>= fun y => .ok (x, y)) >>= fun y => .ok (x, y)) >>= fun p : Int × (List Int) × Unit => (seal_v1 p.1 p.2.1)) >>= fun two_11 => ((((R.ok one_10 >>= fun _ => .ok true) >>= fun x => .ok !x) >>= fun x => if x then .ok true else (((R.ok one_10 >>= fun x => R.ok () >>= fun y => .ok (x, y)) >>= fun p : (List Int) × Unit => (_law_octets_only p.1)) >>= fun x => .ok !x)) >>= fun x => if x then (R.ok false >>= fun r => .ok (r)) else (((R.ok one_10 >>= fun x => ((R.ok first_2 >>= fun x => (R.ok data_6 >>= fun x => R.ok () >>= fun y => .ok (x, y)) >>= fun y => .ok (x, y)) >>= fun p : Int × (List Int) × Unit => (_law_sector p.1 p.2.1)) >>= fun y => ofO ((eqO (D.tup ((x).map D.int)) (D.tup ((y).map D.int))).map (true != ·))) >>= fun x => if x then .ok true else (R.ok two_11 >>= fun x => ((R.ok j_4 >>= fun x => (R.ok more_8 >>= fun x => R.ok () >>= fun y => .ok (x, y)) >>= fun y => .ok (x, y)) >>= fun p : Int × (List Int) × Unit => (_law_sector p.1 p.2.1)) >>= fun y => ofO ((eqO (D.tup ((x).map D.int)) (D.tup ((y).map D.int))).map (true != ·)))) >>= fun x => if x then (R.ok false >>= fun r => .ok (r)) else ((((R.ok one_10 >>= fun x => (((R.ok ("good" : Str) >>= fun x => (R.ok first_2 >>= fun x => ((R.ok data_6 >>= fun xs => (((R.ok (0 : Int) >>= fun x => R.ok () >>= fun y => .ok (x, y)) >>= fun p => .ok ((fun p : Int × Unit => ([p.1] : List Int)) p)) >>= fun xs => (R.ok (22 : Int) >>= fun x => (R.ok data_6 >>= fun xs => .ok (xs.length : Int)) >>= fun y => .ok (x - y)) >>= fun k => ofO (repO xs k)) >>= fun ys => ofO (catO xs ys)) >>= fun x => R.ok () >>= fun y => .ok (x, y)) >>= fun y => .ok (x, y)) >>= fun y => .ok (x, y)) >>= fun p => .ok ((fun p : Str × Int × (List Int) × Unit => ((p.1, p.2.1, p.2.2.1) : (Str × Int × (List Int)))) p)) >>= fun x => R.ok () >>= fun y => .ok (x, y)) >>= fun y => .ok (x, y)) >>= fun p : (List Int) × (Str × Int × (List Int)) × Unit => (_law_reads p.1 p.2.1)) >>= fun x => .ok !x) >>= fun x => if x then (R.ok false >>= fun r => .ok (r)) else ((((R.ok (0 : Int) >>= fun x => R.ok () >>= fun y => .ok (x, y)) >>= fun p => .ok ((fun p : Int × Unit => ([p.1] : List Int)) p)) >>= fun xs => R.ok (32 : Int) >>= fun k => ofO (repO xs k)) >>= fun blank_12 => (((((R.ok two_11 >>= fun xs => R.ok none >>= fun i => (R.ok (16 : Int) >>= fun i => .ok (some i)) >>= fun j => .ok (cutL xs i j)) >>= fun xs => (R.ok one_10 >>= fun xs => (R.ok (16 : Int) >>= fun i => .ok (some i)) >>= fun i => R.ok none >>= fun j => .ok (cutL xs i j)) >>= fun ys => ofO (catO xs ys)) >>= fun x => (((R.ok one_10 >>= fun xs => R.ok none >>= fun i => (R.ok (16 : Int) >>= fun i => .ok (some i)) >>= fun j => .ok (cutL xs i j)) >>= fun xs => (R.ok two_11 >>= fun xs => (R.ok (16 : Int) >>= fun i => .ok (some i)) >>= fun i => R.ok none >>= fun j => .ok (cutL xs i j)) >>= fun ys => ofO (catO xs ys)) >>= fun x => (((R.ok one_10 >>= fun xs => R.ok none >>= fun i => (R.ok (16 : Int) >>= fun i => .ok (some i)) >>= fun j => .ok (cutL xs i j)) >>= fun xs => (R.ok blank_12 >>= fun xs => (R.ok (16 : Int) >>= fun i => .ok (some i)) >>= fun i => R.ok none >>= fun j => .ok (cutL xs i j)) >>= fun ys => ofO (catO xs ys)) >>= fun x => (((R.ok blank_12 >>= fun xs => R.ok none >>= fun i => (R.ok (16 : Int) >>= fun i => .ok (some i)) >>= fun j => .ok (cutL xs i j)) >>= fun xs => (R.ok one_10 >>= fun xs => (R.ok (16 : Int) >>= fun i => .ok (some i)) >>= fun i => R.ok none >>= fun j => .ok (cutL xs i j)) >>= fun ys => ofO (catO xs ys)) >>= fun x => R.ok () >>= fun y => .ok (x, y)) >>= fun y => .ok (x, y)) >>= fun y => .ok (x, y)) >>= fun y => .ok (x, y)) >>= fun p => .ok ((fun p : (List Int) × (List Int) × (List Int) × (List Int) × Unit => ([p.1, p.2.1, p.2.2.1, p.2.2.2.1] : List (List Int))) p)) >>= fun torn_13 => ((R.ok torn_13 >>= fun xs => forX (fun (x_15 : (List Int)) (s_14 : Unit) => ((((R.ok x_15 >>= fun x => (((R.ok ("torn" : Str) >>= fun x => (R.ok (0 : Int) >>= fun x => ((R.ok () >>= fun p => .ok ((fun p : Unit => ([] : (List Int))) p)) >>= fun x => R.ok () >>= fun y => .ok (x, y)) >>= fun y => .ok (x, y)) >>= fun y => .ok (x, y)) >>= fun p => .ok ((fun p : Str × Int × (List Int) × Unit => ((p.1, p.2.1, p.2.2.1) : (Str × Int × (List Int)))) p)) >>= fun x => R.ok () >>= fun y => .ok (x, y)) >>= fun y => .ok (x, y)) >>= fun p : (List Int) × (Str × Int × (List Int)) × Unit => (_law_reads p.1 p.2.1)) >>= fun x => .ok !x) >>= fun x => if x then (R.ok false >>= fun r => .ok (Lo.ex (r))) else R.ok (Lo.nx ()))) xs ()) >>= sumK (fun s_16 : Unit => (((((R.ok blank_12 >>= fun x => (((R.ok ("blank" : Str) >>= fun x => (R.ok (0 : Int) >>= fun x => ((R.ok () >>= fun p => .ok ((fun p : Unit => ([] : (List Int))) p)) >>= fun x => R.ok () >>= fun y => .ok (x, y)) >>= fun y => .ok (x, y)) >>= fun y => .ok (x, y)) >>= fun p => .ok ((fun p : Str × Int × (List Int) × Unit => ((p.1, p.2.1, p.2.2.1) : (Str × Int × (List Int)))) p)) >>= fun x => R.ok () >>= fun y => .ok (x, y)) >>= fun y => .ok (x, y)) >>= fun p : (List Int) × (Str × Int × (List Int)) × Unit => (_law_reads p.1 p.2.1)) >>= fun x => .ok !x) >>= fun x => if x then .ok true else ((((((R.ok one_10 >>= fun x => (R.ok two_11 >>= fun x => (R.ok blank_12 >>= fun x => R.ok () >>= fun y => .ok (x, y)) >>= fun y => .ok (x, y)) >>= fun y => .ok (x, y)) >>= fun p => .ok ((fun p : (List Int) × (List Int) × (List Int) × Unit => ([p.1, p.2.1, p.2.2.1] : List (List Int))) p)) >>= fun xs => R.ok torn_13 >>= fun ys => ofO (catO xs ys)) >>= fun x => ((R.ok draws_1 >>= fun xs => (R.ok (58 : Int) >>= fun i => .ok (some i)) >>= fun i => R.ok none >>= fun j => .ok (cutL xs i j)) >>= fun x => R.ok () >>= fun y => .ok (x, y)) >>= fun y => .ok (x, y)) >>= fun p : (List (List Int)) × (List Int) × Unit => (_law_rotten_all p.1 p.2.1)) >>= fun x => .ok !x)) >>= fun x => if x then (R.ok false >>= fun r => .ok (r)) else ((((((R.ok () >>= fun p => .ok ((fun p : Unit => ([] : List (List Int))) p)) >>= fun x => R.ok () >>= fun y => .ok (x, y)) >>= fun p : (List (List Int)) × Unit => (newest_stamp p.1)) >>= fun x => R.ok (0 : Int) >>= fun y => .ok (!decide (x = y))) >>= fun x => if x then .ok true else (((((R.ok blank_12 >>= fun x => (R.ok blank_12 >>= fun x => R.ok () >>= fun y => .ok (x, y)) >>= fun y => .ok (x, y)) >>= fun p => .ok ((fun p : (List Int) × (List Int) × Unit => ([p.1, p.2.1] : List (List Int))) p)) >>= fun x => R.ok () >>= fun y => .ok (x, y)) >>= fun p : (List (List Int)) × Unit => (newest_stamp p.1)) >>= fun x => R.ok (0 : Int) >>= fun y => .ok (!decide (x = y)))) >>= fun x => if x then (R.ok false >>= fun r => .ok (r)) else (((((((R.ok blank_12 >>= fun x => (R.ok one_10 >>= fun x => (R.ok two_11 >>= fun x => R.ok () >>= fun y => .ok (x, y)) >>= fun y => .ok (x, y)) >>= fun y => .ok (x, y)) >>= fun p => .ok ((fun p : (List Int) × (List Int) × (List Int) × Unit => ([p.1, p.2.1, p.2.2.1] : List (List Int))) p)) >>= fun x => R.ok () >>= fun y => .ok (x, y)) >>= fun p : (List (List Int)) × Unit => (newest_stamp p.1)) >>= fun x => (R.ok first_2 >>= fun x => R.ok j_4 >>= fun y => .ok (if y > x then y else x)) >>= fun y => .ok (!decide (x = y))) >>= fun x => if x then .ok true else ((((((R.ok torn_13 >>= fun xs => R.ok (2 : Int) >>= fun i => ofO (atI xs i)) >>= fun x => R.ok () >>= fun y => .ok (x, y)) >>= fun p => .ok ((fun p : (List Int) × Unit => ([p.1] : List (List Int))) p)) >>= fun x => R.ok () >>= fun y => .ok (x, y)) >>= fun p : (List (List Int)) × Unit => (newest_stamp p.1)) >>= fun x => R.ok first_2 >>= fun y => .ok (!decide (x = y)))) >>= fun x => if x then (R.ok false >>= fun r => .ok (r)) else ((((((((R.ok two_11 >>= fun x => (((R.ok draws_1 >>= fun xs => R.ok (6 : Int) >>= fun i => ofO (atI xs i)) >>= fun x => .ok (x % 16)) >>= fun x => ((R.ok draws_1 >>= fun xs => R.ok (7 : Int) >>= fun i => ofO (atI xs i)) >>= fun x => R.ok () >>= fun y => .ok (x, y)) >>= fun y => .ok (x, y)) >>= fun y => .ok (x, y)) >>= fun p : (List Int) × Int × Int × Unit => (_law_spoilt p.1 p.2.1 p.2.2.1)) >>= fun x => ((R.ok torn_13 >>= fun xs => R.ok (3 : Int) >>= fun i => ofO (atI xs i)) >>= fun x => R.ok () >>= fun y => .ok (x, y)) >>= fun y => .ok (x, y)) >>= fun p => .ok ((fun p : (List Int) × (List Int) × Unit => ([p.1, p.2.1] : List (List Int))) p)) >>= fun x => R.ok () >>= fun y => .ok (x, y)) >>= fun p : (List (List Int)) × Unit => (newest_stamp p.1)) >>= fun x => (R.ok first_2 >>= fun x => R.ok j_4 >>= fun y => .ok (if y > x then y else x)) >>= fun y => .ok (!decide (x = y))) >>= fun x => if x then (R.ok false >>= fun r => .ok (r)) else ((((R.ok torn_13 >>= fun xs => R.ok (2 : Int) >>= fun i => ofO (atI xs i)) >>= fun x => (((R.ok draws_1 >>= fun xs => R.ok (8 : Int) >>= fun i => ofO (atI xs i)) >>= fun x => .ok (x % 16)) >>= fun x => ((R.ok draws_1 >>= fun xs => R.ok (9 : Int) >>= fun i => ofO (atI xs i)) >>= fun x => R.ok () >>= fun y => .ok (x, y)) >>= fun y => .ok (x, y)) >>= fun y => .ok (x, y)) >>= fun p : (List Int) × Int × Int × Unit => (_law_spoilt p.1 p.2.1 p.2.2.1)) >>= fun spoilt_17 => (((((((R.ok spoilt_17 >>= fun x => (R.ok blank_12 >>= fun x => R.ok () >>= fun y => .ok (x, y)) >>= fun y => .ok (x, y)) >>= fun p => .ok ((fun p : (List Int) × (List Int) × Unit => ([p.1, p.2.1] : List (List Int))) p)) >>= fun x => R.ok () >>= fun y => .ok (x, y)) >>= fun p : (List (List Int)) × Unit => (newest_stamp p.1)) >>= fun x => R.ok (0 : Int) >>= fun y => .ok (decide (x = y))) >>= fun x => if x then ((((((R.ok two_11 >>= fun x => (R.ok spoilt_17 >>= fun x => ((R.ok torn_13 >>= fun xs => R.ok (3 : Int) >>= fun i => ofO (atI xs i)) >>= fun x => R.ok () >>= fun y => .ok (x, y)) >>= fun y => .ok (x, y)) >>= fun y => .ok (x, y)) >>= fun p => .ok ((fun p : (List Int) × (List Int) × (List Int) × Unit => ([p.1, p.2.1, p.2.2.1] : List (List Int))) p)) >>= fun x => R.ok () >>= fun y => .ok (x, y)) >>= fun p : (List (List Int)) × Unit => (newest_stamp p.1)) >>= fun x => R.ok () >>= fun y => .ok (x, y)) >>= fun p : Int × Unit => (_law_is_number p.1)) else .ok false) >>= fun r => .ok (r)))))))) .ok))))))))))))))
theorem ok_law (Tx : Tx K mg) : FnOk P w K mg base (L2.CX P w) 6 Tx.a_law Tx.d_law ["script"]
    (SpF ⟨K, mg⟩ (fun p : (List Int) × Unit => [D.frl ((p.1).map D.int)]) (fun r : Bool => .imm (D.bl r)) (fun p => law p.1)) := by
  refine fn_pure Tx.F_law sc_law (fun _ => rfl) fun cdv A outer s H E hr p => ?_
  obtain ⟨script, _⟩ := p
  exact bk_cons (st_set 1 (df_call (ok__law_draws Tx) (hr.mono (by decide)) Tx.g__law_draws Tx.F__law_draws.kp Tx.b__law_draws (takes_of rfl rfl rfl rfl) (da_cons (ea := (fun xs : (List Int) => D.frl (xs.map D.int))) (dd_var (emb := (fun xs : (List Int) => D.frl (xs.map D.int))) 0 rfl) (da_cons dd_int da_nil))) trivial rfl sc_law.nd) fun draws_1 => bk_cons (st_set 2 (df_of_dd (dd_imm (df_call (ok__law_stamp Tx) (hr.mono (by decide)) Tx.g__law_stamp Tx.F__law_stamp.kp Tx.b__law_stamp (takes_of rfl rfl rfl rfl) (da_cons (dd_ixL (ei := D.int) (dl_own (ei := D.int) (db_var (emb := (fun xs : (List Int) => T.lst (xs.map fun x => T.imm (D.int x)))) 1 rfl)) dd_int) (da_cons (dd_ixL (ei := D.int) (dl_own (ei := D.int) (db_var (emb := (fun xs : (List Int) => T.lst (xs.map fun x => T.imm (D.int x)))) 1 rfl)) dd_int) da_nil))))) trivial rfl sc_law.nd) fun first_2 => bk_cons (st_set 3 (df_of_dd (dd_imm (df_call (ok__law_stamp Tx) (hr.mono (by decide)) Tx.g__law_stamp Tx.F__law_stamp.kp Tx.b__law_stamp (takes_of rfl rfl rfl rfl) (da_cons (dd_ixL (ei := D.int) (dl_own (ei := D.int) (db_var (emb := (fun xs : (List Int) => T.lst (xs.map fun x => T.imm (D.int x)))) 1 rfl)) dd_int) (da_cons (dd_ixL (ei := D.int) (dl_own (ei := D.int) (db_var (emb := (fun xs : (List Int) => T.lst (xs.map fun x => T.imm (D.int x)))) 1 rfl)) dd_int) da_nil))))) trivial rfl sc_law.nd) fun second_3 => bk_cons (Γ1 := fun j_4 : Int => [.ow (.imm (D.frl ((script).map D.int))), .ow (.lst ((draws_1).map fun x => .imm (D.int x))), .ow (.imm (D.int first_2)), .ow (.imm (D.int j_4)), .un, .un, .un, .un, .un, .un, .un, .un, .un]) (st_if (dt_eqI (dd_var (emb := D.int) 3 rfl) (dd_var (emb := D.int) 2 rfl)) (bk_cons (st_set 3 (df_of_dd (dd_add dd_int (dd_modC (dd_intI (dd_var (emb := D.int) 2 rfl) Tx.b_int) dd_int (by decide)))) trivial rfl sc_law.nd) fun second_5 => bk_nil (o := second_5) rfl ⟨rfl, rfl, rfl, rfl, trivial⟩) (bk_nil (o := second_3) rfl ⟨rfl, rfl, rfl, rfl, trivial⟩) trivial) fun j_4 => bk_cons (st_setLc (N' := ["script", "draws", "first", "second", "data", "more", "one", "two", "blank", "torn", "sector", "spoilt", "k"]) (sc' := defScope s_law) (ei := D.int) (et := fun y => .imm (D.int y)) 4 [("k", 12)] rfl sc_law.nd (di_range1 (dd_modC (dd_intI (dd_ixL (ei := D.int) (dl_own (ei := D.int) (db_var (emb := (fun xs : (List Int) => T.lst (xs.map fun x => T.imm (D.int x)))) 1 rfl)) dd_int) Tx.b_int) dd_int (by decide)) Tx.b_range) (fun _ _ _ _ _ c_7 => (dgc_name 12 sc_law.nd)) (fun _ _ _ _ _ c_7 => dts_nil) (fun _ _ _ _ _ c_7 => df_of_dd (dd_modC (dd_intI (dd_ixL (ei := D.int) (dl_own (ei := D.int) (db_var (emb := (fun xs : (List Int) => T.lst (xs.map fun x => T.imm (D.int x)))) 1 rfl)) (dd_add dd_int (dd_var (emb := D.int) 12 rfl))) Tx.b_int) dd_int (by decide))) trivial) fun data_6 => bk_cons (st_setLc (N' := ["script", "draws", "first", "second", "data", "more", "one", "two", "blank", "torn", "sector", "spoilt", "k"]) (sc' := defScope s_law) (ei := D.int) (et := fun y => .imm (D.int y)) 5 [("k", 12)] rfl sc_law.nd (di_range1 (dd_modC (dd_intI (dd_ixL (ei := D.int) (dl_own (ei := D.int) (db_var (emb := (fun xs : (List Int) => T.lst (xs.map fun x => T.imm (D.int x)))) 1 rfl)) dd_int) Tx.b_int) dd_int (by decide)) Tx.b_range) (fun _ _ _ _ _ c_9 => (dgc_name 12 sc_law.nd)) (fun _ _ _ _ _ c_9 => dts_nil) (fun _ _ _ _ _ c_9 => df_of_dd (dd_modC (dd_intI (dd_ixL (ei := D.int) (dl_own (ei := D.int) (db_var (emb := (fun xs : (List Int) => T.lst (xs.map fun x => T.imm (D.int x)))) 1 rfl)) (dd_add dd_int (dd_var (emb := D.int) 12 rfl))) Tx.b_int) dd_int (by decide))) trivial) fun more_8 => bk_cons (st_set 6 (df_of_dd (dd_imm (df_call (ok_seal_v0 Tx) (hr.mono (by decide)) Tx.g_seal Tx.F_seal.kp Tx.b_seal (takes_of rfl rfl rfl rfl) (da_cons (dd_var (emb := D.int) 2 rfl) (da_cons (ea := (fun xs : (List Int) => D.lst (xs.map D.int))) (dd_list (ε := D.int) (df_listL (ei := D.int) (dl_own (ei := D.int) (db_var (emb := (fun xs : (List Int) => T.lst (xs.map fun x => T.imm (D.int x)))) 4 rfl)) Tx.b_list)) da_nil))))) trivial rfl sc_law.nd) fun one_10 => bk_cons (st_set 7 (df_of_dd (dd_imm (df_call (ok_seal_v1 Tx) (hr.mono (by decide)) Tx.g_seal Tx.F_seal.kp Tx.b_seal (takes_of rfl rfl rfl rfl) (da_cons (dd_var (emb := D.int) 3 rfl) (da_cons (ea := (fun xs : (List Int) => D.tup (xs.map D.int))) (dd_tupleL (ei := D.int) (dl_own (ei := D.int) (db_var (emb := (fun xs : (List Int) => T.lst (xs.map fun x => T.imm (D.int x)))) 5 rfl)) Tx.b_tuple) da_nil))))) trivial rfl sc_law.nd) fun two_11 => bk_ifX (dt_dw (dw_or (dt_not (dt_bl (dd_isi (emb := (fun xs : (List Int) => D.tup (xs.map D.int))) (t := "tuple") (u := "tuple") (dd_var (emb := (fun xs : (List Int) => D.tup (xs.map D.int))) 6 rfl) Tx.b_isinstance Tx.b_tuple (by decide +kernel) (fun _ => rfl) (by decide +kernel)))) (dw_one (dt_not (dt_bl (dd_imm (df_call (ok__law_octets_only Tx) (hr.mono (by decide)) Tx.g__law_octets_only Tx.F__law_octets_only.kp Tx.b__law_octets_only (takes_of rfl rfl rfl rfl) (da_cons (ea := (fun xs : (List Int) => D.tup (xs.map D.int))) (dd_var (emb := (fun xs : (List Int) => D.tup (xs.map D.int))) 6 rfl) da_nil))))) (by first | exact .inl rfl | exact .inr rfl)))) (bk_ret (df_of_dd dd_bl) (g := fun r => r) (fun _ => rfl) trivial trivial) (bk_freezeL (ei := D.int) 4 rfl (bk_freezeL (ei := D.int) 5 rfl (bk_ifX (dt_dw (dw_or (dt_ne (ea := (fun xs : (List Int) => D.tup (xs.map D.int))) (eb := (fun xs : (List Int) => D.tup (xs.map D.int))) hr.units (de_dd (dd_var (emb := (fun xs : (List Int) => D.tup (xs.map D.int))) 6 rfl)) (de_dd (dd_imm (df_call (ok__law_sector Tx) (hr.mono (by decide)) Tx.g__law_sector Tx.F__law_sector.kp Tx.b__law_sector (takes_of rfl rfl rfl rfl) (da_cons (dd_var (emb := D.int) 2 rfl) (da_cons (ea := (fun xs : (List Int) => D.lst (xs.map D.int))) (dd_var (emb := (fun xs : (List Int) => D.lst (xs.map D.int))) 4 rfl) da_nil)))))) (dw_one (dt_ne (ea := (fun xs : (List Int) => D.tup (xs.map D.int))) (eb := (fun xs : (List Int) => D.tup (xs.map D.int))) hr.units (de_dd (dd_var (emb := (fun xs : (List Int) => D.tup (xs.map D.int))) 7 rfl)) (de_dd (dd_imm (df_call (ok__law_sector Tx) (hr.mono (by decide)) Tx.g__law_sector Tx.F__law_sector.kp Tx.b__law_sector (takes_of rfl rfl rfl rfl) (da_cons (dd_var (emb := D.int) 3 rfl) (da_cons (ea := (fun xs : (List Int) => D.lst (xs.map D.int))) (dd_var (emb := (fun xs : (List Int) => D.lst (xs.map D.int))) 5 rfl) da_nil)))))) (by first | exact .inl rfl | exact .inr rfl)))) (bk_ret (df_of_dd dd_bl) (g := fun r => r) (fun _ => rfl) trivial trivial) (bk_ifX (dt_not (dt_bl (dd_imm (df_call (ok__law_reads Tx) (hr.mono (by decide)) Tx.g__law_reads Tx.F__law_reads.kp Tx.b__law_reads (takes_of rfl rfl rfl rfl) (da_cons (ea := (fun xs : (List Int) => D.tup (xs.map D.int))) (dd_var (emb := (fun xs : (List Int) => D.tup (xs.map D.int))) 6 rfl) (da_cons (ea := (fun p : (Str × Int × (List Int)) => D.tup [D.str p.1, D.int p.2.1, D.tup ((p.2.2).map D.int)])) (dd_tup (et := (fun p : (Str × Int × (List Int)) => D.tup [D.str p.1, D.int p.2.1, D.tup ((p.2.2).map D.int)])) (da_cons dd_str (da_cons (dd_var (emb := D.int) 2 rfl) (da_cons (dd_tupleL (ei := D.int) (dl_own (ei := D.int) (db_of_df (df_cat (ei := D.int) (dlt_imm (ei := D.int) (dd_var (emb := (fun xs : (List Int) => D.lst (xs.map D.int))) 4 rfl)) (dlt_own (ei := D.int) (db_of_df (df_rep (ei := D.int) (dlt_own (ei := D.int) (db_of_df (df_disp (ei := D.int) (da_cons dd_int da_nil) (fun p : Int × Unit => ([p.1] : List Int))))) (dd_sub dd_int (dd_lenL (ei := D.int) (dl_imm (ei := D.int) (dd_var (emb := (fun xs : (List Int) => D.lst (xs.map D.int))) 4 rfl)) Tx.b_len)))))))) Tx.b_tuple) da_nil))) (fun p : Str × Int × (List Int) × Unit => ((p.1, p.2.1, p.2.2.1) : (Str × Int × (List Int))))) da_nil)))))) (bk_ret (df_of_dd dd_bl) (g := fun r => r) (fun _ => rfl) trivial trivial) (bk_cons (st_set 8 (df_of_dd (dd_tupleL (ei := D.int) (dl_own (ei := D.int) (db_of_df (df_rep (ei := D.int) (dlt_own (ei := D.int) (db_of_df (df_disp (ei := D.int) (da_cons dd_int da_nil) (fun p : Int × Unit => ([p.1] : List Int))))) dd_int))) Tx.b_tuple)) trivial rfl sc_law.nd) fun blank_12 => bk_cons (st_set 9 (df_disp (ei := (fun xs : (List Int) => D.tup (xs.map D.int))) (da_cons (dd_catT (ei := D.int) (dd_slT (ei := D.int) (dd_var (emb := (fun xs : (List Int) => D.tup (xs.map D.int))) 7 rfl) do_none (do_some dd_int)) (dd_slT (ei := D.int) (dd_var (emb := (fun xs : (List Int) => D.tup (xs.map D.int))) 6 rfl) (do_some dd_int) do_none)) (da_cons (dd_catT (ei := D.int) (dd_slT (ei := D.int) (dd_var (emb := (fun xs : (List Int) => D.tup (xs.map D.int))) 6 rfl) do_none (do_some dd_int)) (dd_slT (ei := D.int) (dd_var (emb := (fun xs : (List Int) => D.tup (xs.map D.int))) 7 rfl) (do_some dd_int) do_none)) (da_cons (dd_catT (ei := D.int) (dd_slT (ei := D.int) (dd_var (emb := (fun xs : (List Int) => D.tup (xs.map D.int))) 6 rfl) do_none (do_some dd_int)) (dd_slT (ei := D.int) (dd_var (emb := (fun xs : (List Int) => D.tup (xs.map D.int))) 8 rfl) (do_some dd_int) do_none)) (da_cons (dd_catT (ei := D.int) (dd_slT (ei := D.int) (dd_var (emb := (fun xs : (List Int) => D.tup (xs.map D.int))) 8 rfl) do_none (do_some dd_int)) (dd_slT (ei := D.int) (dd_var (emb := (fun xs : (List Int) => D.tup (xs.map D.int))) 6 rfl) (do_some dd_int) do_none)) da_nil)))) (fun p : (List Int) × (List Int) × (List Int) × (List Int) × Unit => ([p.1, p.2.1, p.2.2.1, p.2.2.2.1] : List (List Int)))) trivial rfl sc_law.nd) fun torn_13 => bk_freezeL (ei := (fun xs : (List Int) => D.tup (xs.map D.int))) 9 rfl (bk_consX (Γ1 := fun s_14 : Unit => [.ow (.imm (D.frl ((script).map D.int))), .ow (.lst ((draws_1).map fun x => .imm (D.int x))), .ow (.imm (D.int first_2)), .ow (.imm (D.int j_4)), .ow (.imm (D.lst ((data_6).map D.int))), .ow (.imm (D.lst ((more_8).map D.int))), .ow (.imm (D.tup ((one_10).map D.int))), .ow (.imm (D.tup ((two_11).map D.int))), .ow (.imm (D.tup ((blank_12).map D.int))), .ow (.imm (D.lst ((torn_13).map (fun xs : (List Int) => D.tup (xs.map D.int))))), .un, .un, .un]) (st_rr (st_for (Γs := fun s_14 : Unit => [.ow (.imm (D.frl ((script).map D.int))), .ow (.lst ((draws_1).map fun x => .imm (D.int x))), .ow (.imm (D.int first_2)), .ow (.imm (D.int j_4)), .ow (.imm (D.lst ((data_6).map D.int))), .ow (.imm (D.lst ((more_8).map D.int))), .ow (.imm (D.tup ((one_10).map D.int))), .ow (.imm (D.tup ((two_11).map D.int))), .ow (.imm (D.tup ((blank_12).map D.int))), .ow (.imm (D.lst ((torn_13).map (fun xs : (List Int) => D.tup (xs.map D.int))))), .un, .un, .un]) (ei := (fun xs : (List Int) => D.tup (xs.map D.int))) () (passes_of rfl) rfl (di_list (ei := (fun xs : (List Int) => D.tup (xs.map D.int))) (dd_var (emb := (fun xs : (List (List Int)) => D.lst (xs.map (fun xs : (List Int) => D.tup (xs.map D.int))))) 9 rfl)) (fun s_14 x_15 => (dg_name 10 sc_law.nd)) (fun s_14 x_15 => bk_ifX (dt_not (dt_bl (dd_imm (df_call (ok__law_reads Tx) (hr.mono (by decide)) Tx.g__law_reads Tx.F__law_reads.kp Tx.b__law_reads (takes_of rfl rfl rfl rfl) (da_cons (ea := (fun xs : (List Int) => D.tup (xs.map D.int))) (dd_var (emb := (fun xs : (List Int) => D.tup (xs.map D.int))) 10 rfl) (da_cons (ea := (fun p : (Str × Int × (List Int)) => D.tup [D.str p.1, D.int p.2.1, D.tup ((p.2.2).map D.int)])) (dd_tup (et := (fun p : (Str × Int × (List Int)) => D.tup [D.str p.1, D.int p.2.1, D.tup ((p.2.2).map D.int)])) (da_cons dd_str (da_cons dd_int (da_cons (dd_tup (et := (fun xs : (List Int) => D.tup (xs.map D.int))) da_nil (fun p : Unit => ([] : (List Int)))) da_nil))) (fun p : Str × Int × (List Int) × Unit => ((p.1, p.2.1, p.2.2.1) : (Str × Int × (List Int))))) da_nil)))))) (bk_ret (df_of_dd dd_bl) (g := fun r => Lo.ex (r)) (fun _ => rfl) trivial trivial) (bk_nil (o := (Lo.nx ())) rfl ⟨rfl, rfl, rfl, rfl, rfl, rfl, rfl, rfl, rfl, rfl, trivial⟩) trivial) ⟨rfl, rfl, rfl, rfl, rfl, rfl, rfl, rfl, rfl, rfl, trivial⟩ trivial)) fun s_16 => bk_ifX (dt_dw (dw_or (dt_not (dt_bl (dd_imm (df_call (ok__law_reads Tx) (hr.mono (by decide)) Tx.g__law_reads Tx.F__law_reads.kp Tx.b__law_reads (takes_of rfl rfl rfl rfl) (da_cons (ea := (fun xs : (List Int) => D.tup (xs.map D.int))) (dd_var (emb := (fun xs : (List Int) => D.tup (xs.map D.int))) 8 rfl) (da_cons (ea := (fun p : (Str × Int × (List Int)) => D.tup [D.str p.1, D.int p.2.1, D.tup ((p.2.2).map D.int)])) (dd_tup (et := (fun p : (Str × Int × (List Int)) => D.tup [D.str p.1, D.int p.2.1, D.tup ((p.2.2).map D.int)])) (da_cons dd_str (da_cons dd_int (da_cons (dd_tup (et := (fun xs : (List Int) => D.tup (xs.map D.int))) da_nil (fun p : Unit => ([] : (List Int)))) da_nil))) (fun p : Str × Int × (List Int) × Unit => ((p.1, p.2.1, p.2.2.1) : (Str × Int × (List Int))))) da_nil)))))) (dw_one (dt_not (dt_bl (dd_imm (df_call (ok__law_rotten_all Tx) (hr.mono (by decide)) Tx.g__law_rotten_all Tx.F__law_rotten_all.kp Tx.b__law_rotten_all (takes_of rfl rfl rfl rfl) (da_cons (ea := (fun xs : (List (List Int)) => D.lst (xs.map (fun xs : (List Int) => D.tup (xs.map D.int))))) (dd_list (ε := (fun xs : (List Int) => D.tup (xs.map D.int))) (df_cat (ei := (fun xs : (List Int) => D.tup (xs.map D.int))) (dlt_own (ei := (fun xs : (List Int) => D.tup (xs.map D.int))) (db_of_df (df_disp (ei := (fun xs : (List Int) => D.tup (xs.map D.int))) (da_cons (dd_var (emb := (fun xs : (List Int) => D.tup (xs.map D.int))) 6 rfl) (da_cons (dd_var (emb := (fun xs : (List Int) => D.tup (xs.map D.int))) 7 rfl) (da_cons (dd_var (emb := (fun xs : (List Int) => D.tup (xs.map D.int))) 8 rfl) da_nil))) (fun p : (List Int) × (List Int) × (List Int) × Unit => ([p.1, p.2.1, p.2.2.1] : List (List Int)))))) (dlt_imm (ei := (fun xs : (List Int) => D.tup (xs.map D.int))) (dd_var (emb := (fun xs : (List (List Int)) => D.lst (xs.map (fun xs : (List Int) => D.tup (xs.map D.int))))) 9 rfl)))) (da_cons (ea := (fun xs : (List Int) => D.lst (xs.map D.int))) (dd_list (ε := D.int) (df_slL (ei := D.int) (dl_own (ei := D.int) (db_var (emb := (fun xs : (List Int) => T.lst (xs.map fun x => T.imm (D.int x)))) 1 rfl)) (do_some dd_int) do_none)) da_nil)))))) (by first | exact .inl rfl | exact .inr rfl)))) (bk_ret (df_of_dd dd_bl) (g := fun r => r) (fun _ => rfl) trivial trivial) (bk_ifX (dt_dw (dw_or (dt_neI (dd_imm (df_call (ok_newest_stamp Tx) (hr.mono (by decide)) Tx.g_newest_stamp Tx.F_newest_stamp.kp Tx.b_newest_stamp (takes_of rfl rfl rfl rfl) (da_cons (ea := (fun xs : (List (List Int)) => D.lst (xs.map (fun xs : (List Int) => D.tup (xs.map D.int))))) (dd_list (ε := (fun xs : (List Int) => D.tup (xs.map D.int))) (df_disp (ei := (fun xs : (List Int) => D.tup (xs.map D.int))) da_nil (fun p : Unit => ([] : List (List Int))))) da_nil))) dd_int) (dw_one (dt_neI (dd_imm (df_call (ok_newest_stamp Tx) (hr.mono (by decide)) Tx.g_newest_stamp Tx.F_newest_stamp.kp Tx.b_newest_stamp (takes_of rfl rfl rfl rfl) (da_cons (ea := (fun xs : (List (List Int)) => D.lst (xs.map (fun xs : (List Int) => D.tup (xs.map D.int))))) (dd_list (ε := (fun xs : (List Int) => D.tup (xs.map D.int))) (df_disp (ei := (fun xs : (List Int) => D.tup (xs.map D.int))) (da_cons (dd_var (emb := (fun xs : (List Int) => D.tup (xs.map D.int))) 8 rfl) (da_cons (dd_var (emb := (fun xs : (List Int) => D.tup (xs.map D.int))) 8 rfl) da_nil)) (fun p : (List Int) × (List Int) × Unit => ([p.1, p.2.1] : List (List Int))))) da_nil))) dd_int) (by first | exact .inl rfl | exact .inr rfl)))) (bk_ret (df_of_dd dd_bl) (g := fun r => r) (fun _ => rfl) trivial trivial) (bk_ifX (dt_dw (dw_or (dt_neI (dd_imm (df_call (ok_newest_stamp Tx) (hr.mono (by decide)) Tx.g_newest_stamp Tx.F_newest_stamp.kp Tx.b_newest_stamp (takes_of rfl rfl rfl rfl) (da_cons (ea := (fun xs : (List (List Int)) => D.lst (xs.map (fun xs : (List Int) => D.tup (xs.map D.int))))) (dd_list (ε := (fun xs : (List Int) => D.tup (xs.map D.int))) (df_disp (ei := (fun xs : (List Int) => D.tup (xs.map D.int))) (da_cons (dd_var (emb := (fun xs : (List Int) => D.tup (xs.map D.int))) 8 rfl) (da_cons (dd_var (emb := (fun xs : (List Int) => D.tup (xs.map D.int))) 6 rfl) (da_cons (dd_var (emb := (fun xs : (List Int) => D.tup (xs.map D.int))) 7 rfl) da_nil))) (fun p : (List Int) × (List Int) × (List Int) × Unit => ([p.1, p.2.1, p.2.2.1] : List (List Int))))) da_nil))) (dd_two_ints (f := fun x y => if y > x then y else x) (call_max2 rfl) (dd_var (emb := D.int) 2 rfl) (dd_var (emb := D.int) 3 rfl) Tx.b_max (by decide +kernel))) (dw_one (dt_neI (dd_imm (df_call (ok_newest_stamp Tx) (hr.mono (by decide)) Tx.g_newest_stamp Tx.F_newest_stamp.kp Tx.b_newest_stamp (takes_of rfl rfl rfl rfl) (da_cons (ea := (fun xs : (List (List Int)) => D.lst (xs.map (fun xs : (List Int) => D.tup (xs.map D.int))))) (dd_list (ε := (fun xs : (List Int) => D.tup (xs.map D.int))) (df_disp (ei := (fun xs : (List Int) => D.tup (xs.map D.int))) (da_cons (dd_ixL (ei := (fun xs : (List Int) => D.tup (xs.map D.int))) (dl_imm (ei := (fun xs : (List Int) => D.tup (xs.map D.int))) (dd_var (emb := (fun xs : (List (List Int)) => D.lst (xs.map (fun xs : (List Int) => D.tup (xs.map D.int))))) 9 rfl)) dd_int) da_nil) (fun p : (List Int) × Unit => ([p.1] : List (List Int))))) da_nil))) (dd_var (emb := D.int) 2 rfl)) (by first | exact .inl rfl | exact .inr rfl)))) (bk_ret (df_of_dd dd_bl) (g := fun r => r) (fun _ => rfl) trivial trivial) (bk_ifX (dt_neI (dd_imm (df_call (ok_newest_stamp Tx) (hr.mono (by decide)) Tx.g_newest_stamp Tx.F_newest_stamp.kp Tx.b_newest_stamp (takes_of rfl rfl rfl rfl) (da_cons (ea := (fun xs : (List (List Int)) => D.lst (xs.map (fun xs : (List Int) => D.tup (xs.map D.int))))) (dd_list (ε := (fun xs : (List Int) => D.tup (xs.map D.int))) (df_disp (ei := (fun xs : (List Int) => D.tup (xs.map D.int))) (da_cons (dd_imm (df_call (ok__law_spoilt Tx) (hr.mono (by decide)) Tx.g__law_spoilt Tx.F__law_spoilt.kp Tx.b__law_spoilt (takes_of rfl rfl rfl rfl) (da_cons (ea := (fun xs : (List Int) => D.tup (xs.map D.int))) (dd_var (emb := (fun xs : (List Int) => D.tup (xs.map D.int))) 7 rfl) (da_cons (dd_modC (dd_intI (dd_ixL (ei := D.int) (dl_own (ei := D.int) (db_var (emb := (fun xs : (List Int) => T.lst (xs.map fun x => T.imm (D.int x)))) 1 rfl)) dd_int) Tx.b_int) dd_int (by decide)) (da_cons (dd_ixL (ei := D.int) (dl_own (ei := D.int) (db_var (emb := (fun xs : (List Int) => T.lst (xs.map fun x => T.imm (D.int x)))) 1 rfl)) dd_int) da_nil))))) (da_cons (dd_ixL (ei := (fun xs : (List Int) => D.tup (xs.map D.int))) (dl_imm (ei := (fun xs : (List Int) => D.tup (xs.map D.int))) (dd_var (emb := (fun xs : (List (List Int)) => D.lst (xs.map (fun xs : (List Int) => D.tup (xs.map D.int))))) 9 rfl)) dd_int) da_nil)) (fun p : (List Int) × (List Int) × Unit => ([p.1, p.2.1] : List (List Int))))) da_nil))) (dd_two_ints (f := fun x y => if y > x then y else x) (call_max2 rfl) (dd_var (emb := D.int) 2 rfl) (dd_var (emb := D.int) 3 rfl) Tx.b_max (by decide +kernel))) (bk_ret (df_of_dd dd_bl) (g := fun r => r) (fun _ => rfl) trivial trivial) (bk_cons (st_set 11 (df_of_dd (dd_imm (df_call (ok__law_spoilt Tx) (hr.mono (by decide)) Tx.g__law_spoilt Tx.F__law_spoilt.kp Tx.b__law_spoilt (takes_of rfl rfl rfl rfl) (da_cons (ea := (fun xs : (List Int) => D.tup (xs.map D.int))) (dd_ixL (ei := (fun xs : (List Int) => D.tup (xs.map D.int))) (dl_imm (ei := (fun xs : (List Int) => D.tup (xs.map D.int))) (dd_var (emb := (fun xs : (List (List Int)) => D.lst (xs.map (fun xs : (List Int) => D.tup (xs.map D.int))))) 9 rfl)) dd_int) (da_cons (dd_modC (dd_intI (dd_ixL (ei := D.int) (dl_own (ei := D.int) (db_var (emb := (fun xs : (List Int) => T.lst (xs.map fun x => T.imm (D.int x)))) 1 rfl)) dd_int) Tx.b_int) dd_int (by decide)) (da_cons (dd_ixL (ei := D.int) (dl_own (ei := D.int) (db_var (emb := (fun xs : (List Int) => T.lst (xs.map fun x => T.imm (D.int x)))) 1 rfl)) dd_int) da_nil)))))) trivial rfl sc_law.nd) fun spoilt_17 => bk_ret (df_of_dd (dd_andB (dd_eqI (dd_imm (df_call (ok_newest_stamp Tx) (hr.mono (by decide)) Tx.g_newest_stamp Tx.F_newest_stamp.kp Tx.b_newest_stamp (takes_of rfl rfl rfl rfl) (da_cons (ea := (fun xs : (List (List Int)) => D.lst (xs.map (fun xs : (List Int) => D.tup (xs.map D.int))))) (dd_list (ε := (fun xs : (List Int) => D.tup (xs.map D.int))) (df_disp (ei := (fun xs : (List Int) => D.tup (xs.map D.int))) (da_cons (dd_var (emb := (fun xs : (List Int) => D.tup (xs.map D.int))) 11 rfl) (da_cons (dd_var (emb := (fun xs : (List Int) => D.tup (xs.map D.int))) 8 rfl) da_nil)) (fun p : (List Int) × (List Int) × Unit => ([p.1, p.2.1] : List (List Int))))) da_nil))) dd_int) (dd_one (dd_imm (df_call (ok__law_is_number Tx) (hr.mono (by decide)) Tx.g__law_is_number Tx.F__law_is_number.kp Tx.b__law_is_number (takes_of rfl rfl rfl rfl) (da_cons (dd_imm (df_call (ok_newest_stamp Tx) (hr.mono (by decide)) Tx.g_newest_stamp Tx.F_newest_stamp.kp Tx.b_newest_stamp (takes_of rfl rfl rfl rfl) (da_cons (ea := (fun xs : (List (List Int)) => D.lst (xs.map (fun xs : (List Int) => D.tup (xs.map D.int))))) (dd_list (ε := (fun xs : (List Int) => D.tup (xs.map D.int))) (df_disp (ei := (fun xs : (List Int) => D.tup (xs.map D.int))) (da_cons (dd_var (emb := (fun xs : (List Int) => D.tup (xs.map D.int))) 7 rfl) (da_cons (dd_var (emb := (fun xs : (List Int) => D.tup (xs.map D.int))) 11 rfl) (da_cons (dd_ixL (ei := (fun xs : (List Int) => D.tup (xs.map D.int))) (dl_imm (ei := (fun xs : (List Int) => D.tup (xs.map D.int))) (dd_var (emb := (fun xs : (List (List Int)) => D.lst (xs.map (fun xs : (List Int) => D.tup (xs.map D.int))))) 9 rfl)) dd_int) da_nil))) (fun p : (List Int) × (List Int) × (List Int) × Unit => ([p.1, p.2.1, p.2.2.1] : List (List Int))))) da_nil))) da_nil)))))) (g := fun r => r) (fun _ => rfl) trivial trivial) trivial) trivial) trivial) trivial)) trivial) trivial))) trivial

theorem m_draws (ns : List Int) (hns : ns.length ≤ 63) {n : Nat} (hn : n ≤ 1000000) : ∃ ds, _law_draws ns (n : Int) = .ok ds ∧ ds.length = n ∧ ∀ d ∈ ds, 0 ≤ d ∧ d < 65521 := by
  have happ : ∀ (ds : List Int) (x : Int), (∀ d ∈ ds, 0 ≤ d ∧ d < 65521) → 0 ≤ x ∧ x < 65521 → ∀ d ∈ ds ++ [x], 0 ≤ d ∧ d < 65521 := fun ds x h hx d hd => by
    rcases List.mem_append.mp hd with z | z
    · exact h d z
    · rw [List.mem_singleton.mp z]; exact hx
  unfold _law_draws
  simp only [bind_ok]
  rw [show (63 : Int) = ((63 : Nat) : Int) from rfl, cut_to, List.take_of_length_le hns]
  refine forS_ex (I := fun i s => s.1.length ≤ 60 * i ∧ ∀ d ∈ s.1, 0 ≤ d ∧ d < 65521) ⟨Nat.zero_le _, fun _ z => nomatch z⟩ (fun i hi s q => ?_) fun s q => ?_
  · simp only [rangeO_nat (n := 60) (by decide), show (60 : Int) = ((60 : Nat) : Int) from rfl, ofO_some, bind_ok]
    generalize (if ns[i] < 0 then -ns[i] else ns[i]) = number
    cases decide (1000000000000000000 ≤ number) with
    | true =>
      simp only [if_true]
      have := forS_ex (f := fun (x_9 : Int) (s_8 : (List Int) × Int) => (((R.ok s_8.2 >>= fun x => R.ok (0 : Int) >>= fun y => .ok (decide (y < x))) >>= fun x => if x then (((R.ok s_8.2 >>= fun x => .ok (x % 1009)) >>= fun x => ofO (appO s_8.1 x)) >>= fun draws_11 => ((R.ok s_8.2 >>= fun x => .ok (x / 1009)) >>= fun number_12 => R.ok (draws_11, number_12))) else R.ok (s_8.1, s_8.2)) >>= fun j_10 : (List Int) × Int => R.ok (j_10.1, j_10.2))) (xs := irange 0 ((60 : Nat) : Int)) (s := (s.1, number)) (k := fun s => R.ok s.1) (Q := fun ds : List Int => ds.length ≤ 60 * (i + 1) ∧ ∀ d ∈ ds, 0 ≤ d ∧ d < 65521) (I := fun j t => t.1.length ≤ 60 * i + j ∧ ∀ d ∈ t.1, 0 ≤ d ∧ d < 65521) ⟨q.1, q.2⟩ (fun j hj t qt => by
        rw [irange_lenN] at hj
        simp only [bind_ok]
        cases decide (0 < t.2) with
        | true =>
          simp only [if_true, appO_ok (show t.1.length < 16777216 by omega), ofO_some, bind_ok]
          exact ⟨_, rfl, by rw [List.length_append]; have := qt.1; simp only [List.length_singleton]; omega, happ _ _ qt.2 ⟨Int.emod_nonneg _ (by decide), by omega⟩⟩
        | false =>
          exact ⟨_, rfl, by have := qt.1; show t.1.length ≤ _; omega, qt.2⟩) (fun t qt => ⟨t.1, rfl, by rw [irange_lenN] at qt; have := qt.1; omega, qt.2⟩)
      obtain ⟨ds, e, z⟩ := this
      simp only [bind_ok] at e
      rw [e]
      exact ⟨_, rfl, z⟩
    | false =>
      simp only [Bool.false_eq_true, if_false, appO_ok (show s.1.length < 16777216 by have := q.1; omega), ofO_some, bind_ok]
      exact ⟨_, rfl, by rw [List.length_append]; have := q.1; simp only [List.length_singleton]; omega, happ _ _ q.2 ⟨Int.emod_nonneg _ (by decide), by omega⟩⟩
  · simp only [rangeO_nat (n := n) (by omega), ofO_some, bind_ok]
    refine forS_ex (I := fun i t => t.1.length ≤ 60 * 63 + i ∧ min n i ≤ t.1.length ∧ ∀ d ∈ t.1, 0 ≤ d ∧ d < 65521) ⟨by have := q.1; show s.1.length ≤ _; omega, by omega, q.2⟩ (fun i hi t qt => ?_) fun t qt => ?_
    · rw [irange_lenN] at hi
      cases e : decide ((t.1.length : Int) < (n : Int)) with
      | true =>
        simp only [if_true, appO_ok (show t.1.length < 16777216 by have := qt.1; omega), ofO_some, bind_ok]
        exact ⟨_, rfl, by rw [List.length_append]; have := qt.1; simp only [List.length_singleton]; omega, by rw [List.length_append]; have := qt.2.1; simp only [List.length_singleton]; omega, happ _ _ qt.2.2 ⟨Int.emod_nonneg _ (by decide), by omega⟩⟩
      | false =>
        have := of_decide_eq_false e
        exact ⟨_, rfl, by have := qt.1; show t.1.length ≤ _; omega, by show _ ≤ t.1.length; omega, qt.2.2⟩
    · rw [irange_lenN] at qt
      rw [cut_to]
      exact ⟨_, rfl, by rw [List.length_take]; have := qt.2.1; omega, fun d hd => qt.2.2 d (List.mem_of_mem_take hd)⟩
def Oc (xs : List Int) : Prop := ∀ d ∈ xs, 0 ≤ d ∧ d < 256
def Hf (h : List Int) : Prop := h.length = 16 ∧ Oc h ∧ (h.take 15).sum % 256 = h.getD 15 0
def hlf (st : Int) (d : List Int) : List Int := [197, st / 65536, st / 256 % 256, st % 256] ++ d ++ [([197, st / 65536, st / 256 % 256, st % 256] ++ d).sum % 256]
theorem m_three (n : Int) : three_octets n = .ok [n / 65536, n / 256 % 256, n % 256] := rfl
theorem m_chk0 (xs : List Int) : check_octet_v0 xs = .ok (xs.sum % 256) := rfl
theorem m_chk1 (xs : List Int) : check_octet_v1 xs = .ok (xs.sum % 256) := rfl
theorem m_half (st : Int) {d : List Int} (h : d.length = 11) : seal_half st d = .ok (hlf st d) := by
  unfold seal_half
  simp only [bind_ok, m_three]
  rw [catO_ok (by simp), ofO_some, bind_ok, catO_ok (by simp [h]), ofO_some, bind_ok, m_chk0, bind_ok, bind_ok, bind_ok, catO_ok (by simp [h]), ofO_some, bind_ok]
  rfl
theorem m_lhalf (st : Int) {d : List Int} (h : d.length = 11) : _law_half st d = .ok (hlf st d) := by
  unfold _law_half
  simp only [bind_ok]
  rw [catO_ok (by simp [h]), ofO_some, bind_ok, catO_ok (by simp [h]), ofO_some, bind_ok]
  rfl
def full (d : List Int) : List Int := d ++ List.replicate (22 - d.length) 0
theorem full_len {d : List Int} (h : d.length ≤ 22) : (full d).length = 22 := by unfold full; simp; omega
theorem full_oc {d : List Int} (h : Oc d) : Oc (full d) := fun x hx => by
  unfold full at hx
  rcases List.mem_append.mp hx with z | z
  · exact h x z
  · rw [(List.mem_replicate.mp z).2]; decide
def sec (st : Int) (d : List Int) : List Int := hlf st ((full d).take 11) ++ hlf st ((full d).drop 11)
theorem hlf_len {st : Int} {d : List Int} (h : d.length = 11) : (hlf st d).length = 16 := by unfold hlf; simp [h]
theorem rep_full {d : List Int} (h : d.length ≤ 22) : repO [(0 : Int)] (22 - (d.length : Int)) = some (List.replicate (22 - d.length) 0) := by
  rw [show (22 - (d.length : Int)) = ((22 - d.length : Nat) : Int) by omega, repO_one (by omega)]
theorem m_seal0 (st : Int) {d : List Int} (h : d.length ≤ 22) : seal_v0 st d = .ok (sec st d) := by
  have fl := full_len h
  unfold seal_v0
  simp only [bind_ok]
  rw [show (2 : Int) * 11 - (d.length : Int) = 22 - (d.length : Int) by omega, rep_full h, ofO_some, bind_ok, catO_ok (by simp; omega), ofO_some, bind_ok, show d ++ List.replicate (22 - d.length) 0 = full d from rfl, show (11 : Int) = ((11 : Nat) : Int) from rfl, cut_to, cut_from, m_half st (by rw [List.length_take]; omega), bind_ok, m_half st (by rw [List.length_drop]; omega), bind_ok, catO_ok (by rw [hlf_len (by rw [List.length_take]; omega), hlf_len (by rw [List.length_drop]; omega)]; decide), ofO_some, bind_ok]
  rfl
theorem m_seal1 (st : Int) {d : List Int} (h : d.length ≤ 22) : seal_v1 st d = .ok (sec st d) := m_seal0 st h
theorem m_lsec (st : Int) {d : List Int} (h : d.length ≤ 22) : _law_sector st d = .ok (sec st d) := by
  have fl := full_len h
  unfold _law_sector
  simp only [bind_ok]
  rw [rep_full h, ofO_some, bind_ok, catO_ok (by simp; omega), ofO_some, bind_ok, show d ++ List.replicate (22 - d.length) 0 = full d from rfl, show (11 : Int) = ((11 : Nat) : Int) from rfl, cut_to, cut_from, m_lhalf st (by rw [List.length_take]; omega), bind_ok, m_lhalf st (by rw [List.length_drop]; omega), bind_ok, catO_ok (by rw [hlf_len (by rw [List.length_take]; omega), hlf_len (by rw [List.length_drop]; omega)]; decide), ofO_some, bind_ok]
  rfl
/-! halves read -/
abbrev RD := Str × Int × List Int
def fromO (xs : List Int) : Int := xs.foldl (fun n o => n * 256 + o) 0
theorem m_from (xs : List Int) : from_octets xs = .ok (fromO xs) := by
  unfold from_octets fromO
  simp only [bind_ok]
  generalize (0 : Int) = n
  induction xs generalizing n with
  | nil => rfl
  | cons x xs ih => exact ih _
theorem list16 {h : List Int} (e : h.length = 16) : ∃ a b c d : Int, ∃ r : List Int, ∃ z : Int, h = a :: b :: c :: d :: (r ++ [z]) ∧ r.length = 11 := by
  match h, e with
  | [a, b, c, d, e1, e2, e3, e4, e5, e6, e7, e8, e9, e10, e11, z], _ => exact ⟨a, b, c, d, [e1, e2, e3, e4, e5, e6, e7, e8, e9, e10, e11], z, rfl, rfl⟩
theorem m_rh {a b c d z : Int} {r : List Int} (hr : r.length = 11) : read_half (a :: b :: c :: d :: (r ++ [z])) = .ok (if (a :: b :: c :: d :: (r ++ [z])).any (· != 0) = false then ("blank", 0, []) else if a ≠ 197 ∨ (b * 256 + c) * 256 + d = 0 ∨ (a :: b :: c :: d :: r).sum % 256 ≠ z then ("rotten", 0, []) else ("good", (b * 256 + c) * 256 + d, r)) := by
  have hl : (a :: b :: c :: d :: (r ++ [z])).length = 16 := by simp [hr]
  have t15 : (a :: b :: c :: d :: (r ++ [z])).take 15 = a :: b :: c :: d :: r := by
    simp [List.take_append, hr, List.take_of_length_le]
  have d4 : ((a :: b :: c :: d :: (r ++ [z])).take 15).drop 4 = r := by rw [t15]; rfl
  have g15 : (a :: b :: c :: d :: (r ++ [z]))[15]'(by omega) = z := by
    simp [List.getElem_append_right, hr]
  unfold read_half
  simp only [bind_ok]
  cases e : (a :: b :: c :: d :: (r ++ [z])).any (· != 0) with
  | false => rfl
  | true =>
    rw [show (16 : Int) - 1 = ((15 : Nat) : Int) from rfl, show (4 : Int) = ((4 : Nat) : Int) from rfl, show (1 : Int) = ((1 : Nat) : Int) from rfl, cut_mid, cut_mid, cut_to, t15, m_from, m_chk1, atI_nat' (by omega), g15, show (0 : Int) = ((0 : Nat) : Int) from rfl, atI_nat' (by omega)]
    simp only [Bool.not_true, Bool.false_eq_true, if_false, ofO_some, bind_ok]
    show _ = R.ok (if _ then _ else _)
    have f : fromO (List.drop 1 (List.take 4 (a :: b :: c :: d :: (r ++ [z])))) = (b * 256 + c) * 256 + d := by
      show ((0 * 256 + b) * 256 + c) * 256 + d = _
      omega
    rw [f]
    generalize (a :: b :: c :: d :: r).sum % 256 = y
    generalize (b * 256 + c) * 256 + d = x
    by_cases h1 : a = 197
    · by_cases h2 : x = 0
      · simp [h1, h2, bind_ok]
      · by_cases h3 : y = z
        · simp [h1, h2, h3, bind_ok]
        · simp [h1, h2, h3, bind_ok]
    · simp [h1, bind_ok]
theorem any_of {xs : List Int} {x : Int} (h : x ∈ xs) (h0 : x ≠ 0) : xs.any (· != 0) = true := by
  rw [List.any_eq_true]
  exact ⟨x, h, by rw [bne_iff_ne]; exact h0⟩
theorem rh_good {st : Int} {d : List Int} (hd : d.length = 11) (h1 : 1 ≤ st) (h2 : st < 16777216) : read_half (hlf st d) = .ok ("good", st, d) := by
  have e : hlf st d = 197 :: (st / 65536) :: (st / 256 % 256) :: (st % 256) :: (d ++ [([197, st / 65536, st / 256 % 256, st % 256] ++ d).sum % 256]) := rfl
  have s : (st / 65536 * 256 + st / 256 % 256) * 256 + st % 256 = st := by omega
  rw [e, m_rh hd, any_of (x := 197) (by simp) (by decide), if_neg (by decide), if_neg ?_, s]
  rw [s]
  rintro (h | h | h)
  · exact h rfl
  · omega
  · exact h rfl
def zer (n : Nat) : List Int := List.replicate n 0
theorem rh_blank : read_half (zer 16) = .ok ("blank", 0, []) := by
  have e : zer 16 = 0 :: 0 :: 0 :: 0 :: (zer 11 ++ [0]) := rfl
  rw [e, m_rh (by rfl), if_pos (by rfl)]
theorem rh_any {h : List Int} (hl : h.length = 16) : ∃ r, read_half h = .ok r := by
  obtain ⟨a, b, c, d, r, z, e, hr⟩ := list16 hl
  exact ⟨_, by rw [e, m_rh hr]⟩
def chk (h : List Int) : Prop := (h.take 15).sum % 256 = h.getD 15 0
theorem sum_zero {xs : List Int} (h : xs.any (· != 0) = false) : xs.sum = 0 := by
  induction xs with
  | nil => rfl
  | cons x xs ih =>
    rw [List.any_cons, Bool.or_eq_false_iff] at h
    rw [List.sum_cons, ih h.2]
    have : x = 0 := by simpa using h.1
    omega
theorem rh_rotten {h : List Int} (hl : h.length = 16) (hc : ¬ chk h) : read_half h = .ok ("rotten", 0, []) := by
  obtain ⟨a, b, c, d, r, z, e, hr⟩ := list16 hl
  subst e
  have t15 : (a :: b :: c :: d :: (r ++ [z])).take 15 = a :: b :: c :: d :: r := by
    simp [List.take_append, hr, List.take_of_length_le]
  have g15 : (a :: b :: c :: d :: (r ++ [z])).getD 15 0 = z := by
    simp [List.getD_eq_getElem?_getD, List.getElem?_append_right, hr]
  unfold chk at hc
  rw [t15, g15] at hc
  rw [m_rh hr, if_neg ?_, if_pos (.inr (.inr hc))]
  intro hz
  have q : (a :: b :: c :: d :: r).any (· != 0) = false ∧ z = 0 := by
    simp only [List.any_cons, List.any_append, List.any_nil, Bool.or_false, Bool.or_eq_false_iff] at hz ⊢
    refine ⟨⟨hz.1, hz.2.1, hz.2.2.1, hz.2.2.2.1, hz.2.2.2.2.1⟩, ?_⟩
    have := hz.2.2.2.2.2
    simpa using this
  have := sum_zero q.1
  rw [this, q.2] at hc
  exact hc rfl
/-! an octet replaced -/
theorem sum_set {xs : List Int} {p : Nat} {v : Int} (h : p < xs.length) : (xs.set p v).sum = xs.sum - xs.getD p 0 + v := by
  induction xs generalizing p with
  | nil => cases h
  | cons x xs ih =>
    cases p with
    | zero => simp; omega
    | succ p =>
      have := ih (p := p) (Nat.lt_of_succ_lt_succ h)
      simp only [List.set_cons_succ, List.sum_cons, List.getD_cons_succ, this]
      omega
theorem spoil_chk {h : List Int} (hl : h.length = 16) (ho : Oc h) (hc : chk h) {p : Nat} (hp : p < 16) {v : Int} (hv : 0 ≤ v ∧ v < 256) (hne : v ≠ h.getD p 0) : ¬ chk (h.set p v) := by
  unfold chk at hc ⊢
  have gp : 0 ≤ h.getD p 0 ∧ h.getD p 0 < 256 := by
    rw [List.getD_eq_getElem?_getD, List.getElem?_eq_getElem (by omega)]
    exact ho _ (List.getElem_mem _)
  by_cases c : p = 15
  · subst c
    rw [List.take_set_of_le (by omega), List.getD_eq_getElem?_getD, List.getElem?_set_self (by omega), hc]
    exact fun e => hne e.symm
  · have e1 : (h.set p v).getD 15 0 = h.getD 15 0 := by
      rw [List.getD_eq_getElem?_getD, List.getD_eq_getElem?_getD, List.getElem?_set_ne c]
    have e2 : (h.take 15).getD p 0 = h.getD p 0 := by
      rw [List.getD_eq_getElem?_getD, List.getD_eq_getElem?_getD, List.getElem?_take_of_lt (by omega)]
    rw [e1, List.take_set, sum_set (by rw [List.length_take]; omega), e2, ← hc]
    omega
/-! sectors of two halves -/
theorem cut1 {a b : List Int} (h : a.length = 16) : cutL (a ++ b) none (some 16) = a := by
  rw [show (16 : Int) = ((16 : Nat) : Int) from rfl, cut_to, List.take_left' h]
theorem cut2 {a b : List Int} (h : a.length = 16) : cutL (a ++ b) (some 16) none = b := by
  rw [show (16 : Int) = ((16 : Nat) : Int) from rfl, cut_from, List.drop_left' h]
theorem m_rs {a b : List Int} (h : a.length = 16) {x y : RD} (ha : read_half a = .ok x) (hb : read_half b = .ok y) : read_sector (a ++ b) = join_halves x y := by
  unfold read_sector
  simp only [bind_ok, cut1 h, cut2 h, ha, hb]
  cases join_halves x y <;> rfl
theorem j_rot1 (x y : Int × List Int) (s : Str) : join_halves ("rotten", x) (s, y) = .ok ("rotten", 0, []) := rfl
theorem j_rot2 (x y : Int × List Int) (s : Str) : join_halves (s, x) ("rotten", y) = .ok ("rotten", 0, []) := by
  unfold join_halves
  simp only [bind_ok, decide_true]
  cases decide (s = "rotten") <;> rfl
theorem j_blank (x y : Int × List Int) : join_halves ("blank", x) ("blank", y) = .ok ("blank", 0, []) := rfl
theorem j_gb (x y : Int × List Int) : join_halves ("good", x) ("blank", y) = .ok ("torn", 0, []) := rfl
theorem j_bg (x y : Int × List Int) : join_halves ("blank", x) ("good", y) = .ok ("torn", 0, []) := rfl
theorem j_gg {s t : Int} {d e : List Int} (h : s ≠ t) : join_halves ("good", s, d) ("good", t, e) = .ok ("torn", 0, []) := by
  unfold join_halves
  simp only [bind_ok, decide_eq_false h]
  rfl
theorem j_good {s : Int} {d e : List Int} (h : d.length + e.length ≤ 16777216) : join_halves ("good", s, d) ("good", s, e) = .ok ("good", s, d ++ e) := by
  unfold join_halves
  simp only [bind_ok, decide_true, catO_ok h, ofO_some]
  rfl
/-! the law's looks -/
theorem m_num (i : Int) : _law_is_number i = .ok true := rfl
theorem m_octs {xs : List Int} (h : Oc xs) (hl : xs.length ≤ 1000) : _law_octets_only xs = .ok true := by
  unfold _law_octets_only
  simp only [bind_ok, m_num, if_true]
  rw [compR_map (fun _ => true) (by omega) (fun _ _ => rfl) fun x hx => ?_, bind_ok, bind_ok]
  · rw [List.all_map]; simp
  · have := h x hx
    rw [if_pos (by rw [decide_eq_true_iff]; exact this.1)]
    rw [decide_eq_true (by omega)]
theorem m_reads {s : List Int} {r : RD} (h : read_sector s = .ok r) (ho : Oc r.2.2) (hl : r.2.2.length ≤ 1000) (hs : PyData.strOk r.1 = true) : _law_reads s r = .ok true := by
  unfold _law_reads
  simp only [bind_ok, h, Bool.not_true, Bool.false_eq_true, if_false, decide_true]
  have e : eqO (D.tup [D.str r.1, D.int r.2.1, D.tup ((r.2.2).map D.int)]) (D.tup [D.str r.1, D.int r.2.1, D.tup ((r.2.2).map D.int)]) = some (decide (r = r)) :=
    (eqd_p3 (n := 1) (eqd_str.weak (by decide)) (eqd_int.weak (by decide)) (eqd_tup eqd_int)).eqO (by decide) ⟨hs, trivial, fun _ _ => trivial⟩ ⟨hs, trivial, fun _ _ => trivial⟩
  rw [e, decide_eq_true rfl]
  simp only [Option.map_some, ofO_some, bind_ok]
  rw [if_pos (by rfl), m_num, bind_ok, if_pos rfl, m_octs ho hl]
  rfl
theorem m_spoilt {s : List Int} {p : Nat} (hp : p < s.length) (hl : s.length ≤ 1000) (d : Int) : _law_spoilt s (p : Int) d = .ok (s.set p ((s[p] + 1 + d % 255) % 256)) := by
  unfold _law_spoilt
  simp only [bind_ok]
  rw [atI_nat' hp, ofO_some, bind_ok, cut_to, show (p : Int) + 1 = ((p + 1 : Nat) : Int) by omega, cut_from, bind_ok, bind_ok, bind_ok, catO_ok (by simp; omega), ofO_some, bind_ok, catO_ok (by simp; omega), ofO_some, bind_ok]
  congr 1
  rw [List.append_assoc, List.set_eq_take_append_cons_drop, if_pos hp]
  rfl
theorem spoil_ne {x d : Int} (hx : 0 ≤ x ∧ x < 256) (hd : 0 ≤ d) : (x + 1 + d % 255) % 256 ≠ x ∧ 0 ≤ (x + 1 + d % 255) % 256 ∧ (x + 1 + d % 255) % 256 < 256 := by omega
/-- a half that is right -/
structure Gh (h : List Int) : Prop where
  len : h.length = 16
  oc : Oc h
  ck : chk h
theorem gh_spoil {h : List Int} (g : Gh h) {p : Nat} (hp : p < 16) {d : Int} (hd : 0 ≤ d) : read_half (h.set p ((h.getD p 0 + 1 + d % 255) % 256)) = .ok ("rotten", 0, []) := by
  have gp : 0 ≤ h.getD p 0 ∧ h.getD p 0 < 256 := by
    rw [List.getD_eq_getElem?_getD, List.getElem?_eq_getElem (by have := g.len; omega)]
    exact g.oc _ (List.getElem_mem _)
  have q := spoil_ne gp hd
  exact rh_rotten (by rw [List.length_set, g.len]) (spoil_chk g.len g.oc g.ck hp q.2 q.1)
theorem oc_set {h : List Int} (ho : Oc h) {p : Nat} {v : Int} (hv : 0 ≤ v ∧ v < 256) : Oc (h.set p v) := fun x hx => by
  rcases List.mem_or_eq_of_mem_set hx with z | z
  · exact ho x z
  · rw [z]; exact hv
theorem rd_rot {s : Str} {x : Int × List Int} : Oc (("rotten", (0 : Int), ([] : List Int)) : RD).2.2 := fun _ z => nomatch z
theorem two_spoil {a b : List Int} (ga : Gh a) (gb : Gh b) {p : Nat} (hp : p < 32) {d : Int} (hd : 0 ≤ d) : ∃ s, _law_spoilt (a ++ b) (p : Int) d = .ok s ∧ read_sector s = .ok ("rotten", 0, []) := by
  have la := ga.len
  have lb := gb.len
  refine ⟨_, m_spoilt (by rw [List.length_append]; omega) (by rw [List.length_append]; omega) d, ?_⟩
  by_cases c : p < 16
  · rw [List.set_append_left _ _ (by omega), List.getElem_append_left (by omega)]
    have e := gh_spoil ga c hd
    rw [List.getD_eq_getElem?_getD, List.getElem?_eq_getElem (by omega), Option.getD_some] at e
    obtain ⟨⟨r1, r2⟩, hr⟩ := rh_any lb
    rw [m_rs (by rw [List.length_set, la]) e hr, j_rot1]
  · rw [List.set_append_right _ _ (by omega), List.getElem_append_right (by omega)]
    have e := gh_spoil gb (p := p - a.length) (by omega) hd
    rw [List.getD_eq_getElem?_getD, List.getElem?_eq_getElem (by omega), Option.getD_some] at e
    obtain ⟨⟨r1, r2⟩, hr⟩ := rh_any la
    rw [m_rs la hr e, j_rot2]
theorem gh_half {st : Int} {d : List Int} (hd : d.length = 11) (ho : Oc d) (h1 : 1 ≤ st) (h2 : st < 16777216) : Gh (hlf st d) := by
  refine ⟨hlf_len hd, fun x hx => ?_, ?_⟩
  · unfold hlf at hx
    simp only [List.mem_append, List.mem_cons, List.not_mem_nil, or_false] at hx
    rcases hx with ((z | z | z | z) | z) | z
    · omega
    · omega
    · omega
    · omega
    · exact ho x z
    · omega
  · unfold chk hlf
    have e : ([197, st / 65536, st / 256 % 256, st % 256] ++ d).length = 15 := by simp [hd]
    rw [List.take_left' e, List.getD_eq_getElem?_getD, List.getElem?_append_right (by omega), e]
    rfl
theorem gh_zer : Gh (zer 16) := ⟨rfl, fun x hx => by rw [(List.mem_replicate.mp hx).2]; decide, by unfold chk; decide⟩
/-! newest_stamp -/
def mx (x y z : Int) : Int := if y > x then (if z > y then z else y) else (if z > x then z else x)
theorem mx_max (x y z : Int) : mx x y z = max (max x y) z := by unfold mx; split <;> split <;> omega
abbrev Hs := List Int × List Int × Int × Int
def HsOk (t : Hs) : Prop := t.1.length = 16 ∧ (∃ k d, read_half t.1 = .ok (k, t.2.2.1, d)) ∧ ∃ k d, read_half t.2.1 = .ok (k, t.2.2.2, d)
theorem m_newest (l : List Hs) (h : ∀ t ∈ l, HsOk t) : newest_stamp (l.map fun t => t.1 ++ t.2.1) = .ok (l.foldl (fun n t => max (max n t.2.2.1) t.2.2.2) 0) := by
  unfold newest_stamp
  simp only [bind_ok]
  generalize (0 : Int) = n
  induction l generalizing n with
  | nil => rfl
  | cons t l ih =>
    obtain ⟨h1, ⟨k1, d1, h2⟩, k2, d2, h3⟩ := h t List.mem_cons_self
    rw [List.map_cons]
    unfold forS
    rw [cut1 h1, cut2 h1, h2, bind_ok, bind_ok, h3, bind_ok, bind_ok, bind_ok, bind_ok]
    rw [List.foldl_cons, ← mx_max]
    exact ih (fun t' q => h t' (List.mem_cons_of_mem _ q)) _
/-! the draws -/
theorem m_stamp {one two : Int} (h1 : 0 ≤ one ∧ one < 65521) (h2 : 0 ≤ two) : ∃ s, _law_stamp one two = .ok s ∧ 1 ≤ s ∧ s < 16777216 := by
  unfold _law_stamp
  simp only [bind_ok]
  obtain ⟨j, e⟩ : ∃ j : Nat, two % 10 = (j : Int) := ⟨(two % 10).toNat, by omega⟩
  have hj : j < 10 := by omega
  rw [e, atI_nat' (by simpa using hj), ofO_some, bind_ok]
  refine ⟨_, rfl, ?_⟩
  have : ∀ x ∈ ([1, 2, 255, 256, 65535, 65536, 16777215, 16777214, 1 + one, 1 + one * 256 + two % 256] : List Int), 1 ≤ x ∧ x < 16777216 := by
    intro x hx
    simp only [List.mem_cons, List.not_mem_nil, or_false] at hx
    omega
  exact this _ (List.getElem_mem _)
theorem m_data {ds : List Int} (hl : ds.length = 90) {m off : Nat} (hm : m < 23) (ho : off ≤ 60) : ∃ xs, compR (fun _ : Int => R.ok true) (fun c : Int => (ofO (atI ds ((off : Int) + c)) >>= fun x => R.ok (x % 256))) (irange 0 (m : Int)) = .ok xs ∧ xs.length = m ∧ Oc xs := by
  refine ⟨_, compR_map (fun c => (ds.getD (off + c.toNat) 0) % 256) (by rw [irange_lenN]; omega) (fun _ _ => rfl) fun c hc => ?_, by rw [List.length_map, irange_lenN], fun x hx => ?_⟩
  · rw [irange_nat] at hc
    obtain ⟨k, hk, rfl⟩ := List.mem_map.mp hc
    have hk := List.mem_range.mp hk
    rw [show (off : Int) + (k : Int) = ((off + k : Nat) : Int) by omega, atI_nat' (by omega), ofO_some, bind_ok, Int.toNat_natCast, List.getD_eq_getElem?_getD, List.getElem?_eq_getElem (by omega)]
    rfl
  · obtain ⟨c, _, rfl⟩ := List.mem_map.mp hx
    exact ⟨Int.emod_nonneg _ (by decide), Int.emod_lt_of_pos _ (by decide)⟩
theorem at_d {ds : List Int} (k : Nat) (hk : k < ds.length) : atI ds (k : Int) = some (ds.getD k 0) := by
  rw [atI_nat' hk, List.getD_eq_getElem?_getD, List.getElem?_eq_getElem hk]; rfl
theorem d_bd {ds : List Int} (h : ∀ d ∈ ds, 0 ≤ d ∧ d < 65521) (k : Nat) : 0 ≤ ds.getD k 0 ∧ ds.getD k 0 < 65521 := by
  rw [List.getD_eq_getElem?_getD]
  by_cases c : k < ds.length
  · rw [List.getElem?_eq_getElem c]; exact h _ (List.getElem_mem _)
  · rw [List.getElem?_eq_none (by omega)]; decide
/-- seven sectors, each of them spoilt somewhere -/
theorem m_rot {ss : List (List Int)} {ds : List Int} (hs : ∀ s ∈ ss, ∃ a b, s = a ++ b ∧ Gh a ∧ Gh b) (hl : ss.length + 8 ≤ ds.length) (hd : ∀ d ∈ ds, 0 ≤ d ∧ d < 65521) (hss : ss.length ≤ 1000) : _law_rotten_all ss ds = .ok true := by
  unfold _law_rotten_all
  simp only [bind_ok]
  rw [rangeO_nat (by omega), ofO_some, bind_ok]
  refine forX_pass (fun k hk => ?_) rfl
  rw [irange_nat] at hk
  obtain ⟨j, hj, rfl⟩ := List.mem_map.mp hk
  have hj := List.mem_range.mp hj
  obtain ⟨a, b, e, ga, gb⟩ := hs _ (List.getElem_mem hj)
  have hp := d_bd hd j
  obtain ⟨p, ep⟩ : ∃ p : Nat, ds.getD j 0 % 32 = (p : Int) := ⟨(ds.getD j 0 % 32).toNat, by omega⟩
  obtain ⟨s, e1, e2⟩ := two_spoil ga gb (p := p) (by omega) (d_bd hd (j + 8)).1
  rw [at_d j (by omega), ofO_some, bind_ok, bind_ok, ep, show (j : Int) + 8 = ((j + 8 : Nat) : Int) by omega, at_d (j + 8) (by omega), atI_nat' hj]
  simp only [ofO_some, bind_ok, e, e1]
  rw [m_reads e2 (fun _ z => nomatch z) (by decide) (by decide +kernel)]
  rfl
theorem left_spoil {a b : List Int} (ga : Gh a) (hb : b.length = 16) {p : Nat} (hp : p < 16) {d : Int} (hd : 0 ≤ d) : ∃ a', _law_spoilt (a ++ b) (p : Int) d = .ok (a' ++ b) ∧ a'.length = 16 ∧ read_half a' = .ok ("rotten", 0, []) := by
  have la := ga.len
  refine ⟨a.set p ((a.getD p 0 + 1 + d % 255) % 256), ?_, by rw [List.length_set, la], gh_spoil ga hp hd⟩
  rw [m_spoilt (by rw [List.length_append]; omega) (by rw [List.length_append]; omega) d, List.set_append_left _ _ (by omega), List.getElem_append_left (by omega), List.getD_eq_getElem?_getD, List.getElem?_eq_getElem (by omega), Option.getD_some]
theorem law_true (ns : List Int) (h : ns.length ≤ 63) : law ns = .ok true := by
  obtain ⟨ds, ed, hl, hb⟩ := m_draws ns h (n := 90) (by decide)
  have D := d_bd hb
  have ed : _law_draws ns 90 = .ok ds := ed
  have a (k : Nat) (hk : k < 90) : atI ds (k : Int) = some (ds.getD k 0) := at_d k (by omega)
  have a0 : atI ds 0 = _ := a 0 (by decide)
  have a1 : atI ds 1 = _ := a 1 (by decide)
  have a2 : atI ds 2 = _ := a 2 (by decide)
  have a3 : atI ds 3 = _ := a 3 (by decide)
  have a4 : atI ds 4 = _ := a 4 (by decide)
  have a5 : atI ds 5 = _ := a 5 (by decide)
  have a6 : atI ds 6 = _ := a 6 (by decide)
  have a7 : atI ds 7 = _ := a 7 (by decide)
  have a8 : atI ds 8 = _ := a 8 (by decide)
  have a9 : atI ds 9 = _ := a 9 (by decide)
  obtain ⟨f, ef, f1, f2⟩ := m_stamp (D 0) (D 1).1
  obtain ⟨s0, es, s1, s2⟩ := m_stamp (D 2) (D 3).1
  obtain ⟨s, e2, g1, g2, g3⟩ : ∃ s, (if decide (s0 = f) = true then R.ok (1 + f % 16777215) else R.ok s0) = R.ok s ∧ 1 ≤ s ∧ s < 16777216 ∧ f ≠ s := by
    by_cases c : s0 = f
    · rw [if_pos (decide_eq_true c)]
      exact ⟨_, rfl, by omega, by omega, by omega⟩
    · rw [if_neg (by rw [decide_eq_true_iff]; exact c)]
      exact ⟨_, rfl, s1, s2, fun z => c z.symm⟩
  obtain ⟨m4, q4⟩ : ∃ m : Nat, ds.getD 4 0 % 23 = (m : Int) := ⟨(ds.getD 4 0 % 23).toNat, by have := D 4; omega⟩
  obtain ⟨m5, q5⟩ : ∃ m : Nat, ds.getD 5 0 % 23 = (m : Int) := ⟨(ds.getD 5 0 % 23).toNat, by have := D 5; omega⟩
  have hm4 : m4 < 23 := by omega
  have hm5 : m5 < 23 := by omega
  obtain ⟨da, eda, lda, oda⟩ := m_data hl hm4 (off := 10) (by decide)
  obtain ⟨mo, emo, lmo, omo⟩ := m_data hl hm5 (off := 34) (by decide)
  have eda : compR (fun _ : Int => R.ok true) (fun c : Int => (ofO (atI ds (10 + c)) >>= fun x => R.ok (x % 256))) (irange 0 (m4 : Int)) = .ok da := eda
  have emo : compR (fun _ : Int => R.ok true) (fun c : Int => (ofO (atI ds (34 + c)) >>= fun x => R.ok (x % 256))) (irange 0 (m5 : Int)) = .ok mo := emo
  have fl := full_len (d := da) (by omega)
  have fm := full_len (d := mo) (by omega)
  have fo := full_oc oda
  have fo2 := full_oc omo
  have tk : ((full da).take 11).length = 11 := by rw [List.length_take]; omega
  have dk : ((full da).drop 11).length = 11 := by rw [List.length_drop]; omega
  have tm : ((full mo).take 11).length = 11 := by rw [List.length_take]; omega
  have dm : ((full mo).drop 11).length = 11 := by rw [List.length_drop]; omega
  obtain ⟨F1, eF1⟩ : ∃ x, hlf f ((full da).take 11) = x := ⟨_, rfl⟩
  obtain ⟨F2, eF2⟩ : ∃ x, hlf f ((full da).drop 11) = x := ⟨_, rfl⟩
  obtain ⟨S1, eS1⟩ : ∃ x, hlf s ((full mo).take 11) = x := ⟨_, rfl⟩
  obtain ⟨S2, eS2⟩ : ∃ x, hlf s ((full mo).drop 11) = x := ⟨_, rfl⟩
  have r1 : read_half F1 = .ok ("good", f, (full da).take 11) := eF1 ▸ rh_good tk f1 f2
  have r2 : read_half F2 = .ok ("good", f, (full da).drop 11) := eF2 ▸ rh_good dk f1 f2
  have r3 : read_half S1 = .ok ("good", s, (full mo).take 11) := eS1 ▸ rh_good tm g1 g2
  have r4 : read_half S2 = .ok ("good", s, (full mo).drop 11) := eS2 ▸ rh_good dm g1 g2
  have G1 : Gh F1 := eF1 ▸ gh_half tk (fun x hx => fo x (List.mem_of_mem_take hx)) f1 f2
  have G2 : Gh F2 := eF2 ▸ gh_half dk (fun x hx => fo x (List.mem_of_mem_drop hx)) f1 f2
  have G3 : Gh S1 := eS1 ▸ gh_half tm (fun x hx => fo2 x (List.mem_of_mem_take hx)) g1 g2
  have G4 : Gh S2 := eS2 ▸ gh_half dm (fun x hx => fo2 x (List.mem_of_mem_drop hx)) g1 g2
  have ef1 : sec f da = F1 ++ F2 := by rw [← eF1, ← eF2]; rfl
  have es1 : sec s mo = S1 ++ S2 := by rw [← eS1, ← eS2]; rfl
  have Z := gh_zer
  have rz := rh_blank
  have z32 : repO [(0 : Int)] 32 = some (zer 16 ++ zer 16) := repO_one (x := (0 : Int)) (n := 32) (by decide)
  obtain ⟨B, eB⟩ : ∃ x, zer 16 = x := ⟨_, rfl⟩
  rw [eB] at Z rz z32
  have cat2 (x y : List Int) (hx : Gh x) (hy : Gh y) : catO x y = some (x ++ y) := catO_ok (by have := hx.len; have := hy.len; omega)
  have tornOk (x y : List Int) (hx : Gh x) (hy : Gh y) {p q : RD} (h1 : read_half x = .ok p) (h2 : read_half y = .ok q) (j : join_halves p q = .ok ("torn", 0, [])) : _law_reads (x ++ y) ("torn", 0, []) = .ok true := m_reads (by rw [m_rs hx.len h1 h2, j]) (fun _ z => nomatch z) (by decide) (by decide +kernel)
  have rdGood : _law_reads (F1 ++ F2) ("good", f, full da) = .ok true := m_reads (r := ("good", f, full da)) (by rw [m_rs G1.len r1 r2, j_good (by omega), List.take_append_drop]) fo (by show (full da).length ≤ _; omega) (show PyData.strOk ("good" : Str) = true by decide +kernel)
  have rdBlank : _law_reads (B ++ B) ("blank", 0, []) = .ok true := m_reads (by rw [m_rs Z.len rz rz, j_blank]) (fun _ z => nomatch z) (by decide) (by decide +kernel)
  have o1 : _law_octets_only (F1 ++ F2) = .ok true := m_octs (fun x hx => (List.mem_append.mp hx).elim (G1.oc x) (G2.oc x)) (by rw [List.length_append, G1.len, G2.len]; decide)
  have n1 : newest_stamp [] = .ok 0 := m_newest [] fun _ z => nomatch z
  have hz : HsOk (B, B, 0, 0) := ⟨Z.len, ⟨_, _, rz⟩, _, _, rz⟩
  have hF : HsOk (F1, F2, f, f) := ⟨G1.len, ⟨_, _, r1⟩, _, _, r2⟩
  have hS : HsOk (S1, S2, s, s) := ⟨G3.len, ⟨_, _, r3⟩, _, _, r4⟩
  have hFB : HsOk (F1, B, f, 0) := ⟨G1.len, ⟨_, _, r1⟩, _, _, rz⟩
  have hBF : HsOk (B, F2, 0, f) := ⟨Z.len, ⟨_, _, rz⟩, _, _, r2⟩
  have n2 : newest_stamp [B ++ B, B ++ B] = .ok 0 := m_newest [(B, B, 0, 0), (B, B, 0, 0)] (by simp only [List.forall_mem_cons]; exact ⟨hz, hz, fun _ z => nomatch z⟩)
  have mxe : max (max (max (max (max (max (0 : Int) 0) 0) f) f) s) s = if s > f then s else f := by split <;> omega
  have n3 : newest_stamp [B ++ B, F1 ++ F2, S1 ++ S2] = .ok (if s > f then s else f) := by
    rw [← mxe]
    exact m_newest [(B, B, 0, 0), (F1, F2, f, f), (S1, S2, s, s)] (by simp only [List.forall_mem_cons]; exact ⟨hz, hF, hS, fun _ z => nomatch z⟩)
  have n4 : newest_stamp [F1 ++ B] = .ok f := by
    rw [show f = max (max 0 f) 0 by omega]
    exact m_newest [(F1, B, f, 0)] (by simp only [List.forall_mem_cons]; exact ⟨hFB, fun _ z => nomatch z⟩)
  obtain ⟨p6, q6⟩ : ∃ m : Nat, ds.getD 6 0 % 16 = (m : Int) := ⟨(ds.getD 6 0 % 16).toNat, by have := D 6; omega⟩
  obtain ⟨p8, q8⟩ : ∃ m : Nat, ds.getD 8 0 % 16 = (m : Int) := ⟨(ds.getD 8 0 % 16).toNat, by have := D 8; omega⟩
  obtain ⟨X, x1, x2, x3⟩ := left_spoil G3 G4.len (p := p6) (by omega) (D 7).1
  obtain ⟨Y, y1, y2, y3⟩ := left_spoil G1 Z.len (p := p8) (by omega) (D 9).1
  have hX : HsOk (X, S2, 0, s) := ⟨x2, ⟨_, _, x3⟩, _, _, r4⟩
  have hY : HsOk (Y, B, 0, 0) := ⟨y2, ⟨_, _, y3⟩, _, _, rz⟩
  have n5 : newest_stamp [X ++ S2, B ++ F2] = .ok (if s > f then s else f) := by
    rw [show (if s > f then s else f) = max (max (max (max 0 0) s) 0) f by split <;> omega]
    exact m_newest [(X, S2, 0, s), (B, F2, 0, f)] (by simp only [List.forall_mem_cons]; exact ⟨hX, hBF, fun _ z => nomatch z⟩)
  have n6 : newest_stamp [Y ++ B, B ++ B] = .ok 0 := m_newest [(Y, B, 0, 0), (B, B, 0, 0)] (by simp only [List.forall_mem_cons]; exact ⟨hY, hz, fun _ z => nomatch z⟩)
  have n7 : newest_stamp [S1 ++ S2, Y ++ B, B ++ F2] = .ok _ := m_newest [(S1, S2, s, s), (Y, B, 0, 0), (B, F2, 0, f)] (by simp only [List.forall_mem_cons]; exact ⟨hS, hY, hBF, fun _ z => nomatch z⟩)
  have rot : _law_rotten_all [F1 ++ F2, S1 ++ S2, B ++ B, S1 ++ F2, F1 ++ S2, F1 ++ B, B ++ F2] (ds.drop 58) = .ok true := by
    refine m_rot ?_ (by rw [List.length_drop, hl]; show 7 + 8 ≤ 90 - 58; decide) (fun d q => hb d (List.mem_of_mem_drop q)) (show 7 ≤ 1000 by decide)
    simp only [List.forall_mem_cons]
    exact ⟨⟨_, _, rfl, G1, G2⟩, ⟨_, _, rfl, G3, G4⟩, ⟨_, _, rfl, Z, Z⟩, ⟨_, _, rfl, G3, G2⟩, ⟨_, _, rfl, G1, G4⟩, ⟨_, _, rfl, G1, Z⟩, ⟨_, _, rfl, Z, G2⟩, fun _ z => nomatch z⟩
  have c58 : cutL ds (some 58) none = ds.drop 58 := cut_from ds 58
  have cat7 : catO [F1 ++ F2, S1 ++ S2, B ++ B] [S1 ++ F2, F1 ++ S2, F1 ++ B, B ++ F2] = some [F1 ++ F2, S1 ++ S2, B ++ B, S1 ++ F2, F1 ++ S2, F1 ++ B, B ++ F2] := catO_ok (show 3 + 4 ≤ 16777216 by decide)
  have t2 : atI [S1 ++ F2, F1 ++ S2, F1 ++ B, B ++ F2] 2 = some (F1 ++ B) := rfl
  have t3 : atI [S1 ++ F2, F1 ++ S2, F1 ++ B, B ++ F2] 3 = some (B ++ F2) := rfl
  unfold law
  simp only [bind_ok, ed, a0, a1, a2, a3, a4, a5, a6, a7, a8, a9, ofO_some, ef, es, e2, q4, q5, rangeO_nat (show m4 < 4611686018427387904 by omega), rangeO_nat (show m5 < 4611686018427387904 by omega), eda, emo, m_seal0 f (show da.length ≤ 22 by omega), m_seal1 s (show mo.length ≤ 22 by omega), m_lsec f (show da.length ≤ 22 by omega), m_lsec s (show mo.length ≤ 22 by omega), ef1, es1, o1, eqO_tints, decide_true, Option.map_some, Bool.not_true, Bool.false_eq_true, if_false, bne_self_eq_false, rep_full (show da.length ≤ 22 by omega), catO_ok (show da.length + (List.replicate (22 - da.length) (0 : Int)).length ≤ 16777216 by simp; omega), show da ++ List.replicate (22 - da.length) 0 = full da from rfl, rdGood, z32, cut1 G1.len, cut1 G3.len, cut1 Z.len, cut2 G1.len, cut2 G3.len, cut2 Z.len, cat2 S1 F2 G3 G2, cat2 F1 S2 G1 G4, cat2 F1 B G1 Z, cat2 B F2 Z G2]
  refine forX_pass (fun x hx => ?_) ?_
  · have : _law_reads x ("torn", 0, []) = .ok true := by
      simp only [List.mem_cons, List.not_mem_nil, or_false] at hx
      rcases hx with e | e | e | e
      · rw [e]; exact tornOk S1 F2 G3 G2 r3 r2 (j_gg fun z => g3 z.symm)
      · rw [e]; exact tornOk F1 S2 G1 G4 r1 r4 (j_gg g3)
      · rw [e]; exact tornOk F1 B G1 Z r1 rz (j_gb _ _)
      · rw [e]; exact tornOk B F2 Z G2 rz r2 (j_bg _ _)
    rw [this]
    rfl
  · show (_ : R Bool) = _
    unfold sumK
    simp only [rdBlank, bind_ok, Bool.not_true, Bool.false_eq_true, if_false, cat7, ofO_some, c58, rot, n1, n2, n3, decide_true, t2, t3, n4, q6, q8, x1, n5, y1, n6, if_true, n7, m_num]
end K13
namespace K13
open PySem PySem.Spec L2 Cn
theorem all_mk {l : PySem.W.OpenLaw} {w : World} {K : PySem.W.Frag} {h : Heap} {mg : Str → Option Value} {fa : Addr} {f__law_draws : Addr} {od__law_draws an__law_draws : Option Addr} {sl__law_draws : Array (Option Value)} {oc__law_draws kV__law_draws dc__law_draws pm__law_draws cd__law_draws ct__law_draws : Value}
{f__law_stamp : Addr} {od__law_stamp an__law_stamp : Option Addr} {sl__law_stamp : Array (Option Value)} {oc__law_stamp kV__law_stamp dc__law_stamp pm__law_stamp cd__law_stamp ct__law_stamp : Value}
{f_three_octets : Addr} {od_three_octets an_three_octets : Option Addr} {sl_three_octets : Array (Option Value)} {oc_three_octets kV_three_octets dc_three_octets pm_three_octets cd_three_octets ct_three_octets : Value}
{f_check_octet : Addr} {od_check_octet an_check_octet : Option Addr} {sl_check_octet : Array (Option Value)} {oc_check_octet kV_check_octet dc_check_octet pm_check_octet cd_check_octet ct_check_octet : Value}
{f_seal_half : Addr} {od_seal_half an_seal_half : Option Addr} {sl_seal_half : Array (Option Value)} {oc_seal_half kV_seal_half dc_seal_half pm_seal_half cd_seal_half ct_seal_half : Value}
{f_seal : Addr} {od_seal an_seal : Option Addr} {sl_seal : Array (Option Value)} {oc_seal kV_seal dc_seal pm_seal cd_seal ct_seal : Value}
{f__law_spoilt : Addr} {od__law_spoilt an__law_spoilt : Option Addr} {sl__law_spoilt : Array (Option Value)} {oc__law_spoilt kV__law_spoilt dc__law_spoilt pm__law_spoilt cd__law_spoilt ct__law_spoilt : Value}
{f_join_halves : Addr} {od_join_halves an_join_halves : Option Addr} {sl_join_halves : Array (Option Value)} {oc_join_halves kV_join_halves dc_join_halves pm_join_halves cd_join_halves ct_join_halves : Value}
{f_from_octets : Addr} {od_from_octets an_from_octets : Option Addr} {sl_from_octets : Array (Option Value)} {oc_from_octets kV_from_octets dc_from_octets pm_from_octets cd_from_octets ct_from_octets : Value}
{f_read_half : Addr} {od_read_half an_read_half : Option Addr} {sl_read_half : Array (Option Value)} {oc_read_half kV_read_half dc_read_half pm_read_half cd_read_half ct_read_half : Value}
{f_read_sector : Addr} {od_read_sector an_read_sector : Option Addr} {sl_read_sector : Array (Option Value)} {oc_read_sector kV_read_sector dc_read_sector pm_read_sector cd_read_sector ct_read_sector : Value}
{f__law_is_number : Addr} {od__law_is_number an__law_is_number : Option Addr} {sl__law_is_number : Array (Option Value)} {oc__law_is_number kV__law_is_number dc__law_is_number pm__law_is_number cd__law_is_number ct__law_is_number : Value}
{f__law_octets_only : Addr} {od__law_octets_only an__law_octets_only : Option Addr} {sl__law_octets_only : Array (Option Value)} {oc__law_octets_only kV__law_octets_only dc__law_octets_only pm__law_octets_only cd__law_octets_only ct__law_octets_only : Value}
{f__law_reads : Addr} {od__law_reads an__law_reads : Option Addr} {sl__law_reads : Array (Option Value)} {oc__law_reads kV__law_reads dc__law_reads pm__law_reads cd__law_reads ct__law_reads : Value}
{f_newest_stamp : Addr} {od_newest_stamp an_newest_stamp : Option Addr} {sl_newest_stamp : Array (Option Value)} {oc_newest_stamp kV_newest_stamp dc_newest_stamp pm_newest_stamp cd_newest_stamp ct_newest_stamp : Value}
{f__law_half : Addr} {od__law_half an__law_half : Option Addr} {sl__law_half : Array (Option Value)} {oc__law_half kV__law_half dc__law_half pm__law_half cd__law_half ct__law_half : Value}
{f__law_sector : Addr} {od__law_sector an__law_sector : Option Addr} {sl__law_sector : Array (Option Value)} {oc__law_sector kV__law_sector dc__law_sector pm__law_sector cd__law_sector ct__law_sector : Value}
{f__law_rotten_all : Addr} {od__law_rotten_all an__law_rotten_all : Option Addr} {sl__law_rotten_all : Array (Option Value)} {oc__law_rotten_all kV__law_rotten_all dc__law_rotten_all pm__law_rotten_all cd__law_rotten_all ct__law_rotten_all : Value}
{f_law : Addr} {od_law an_law : Option Addr} {sl_law : Array (Option Value)} {oc_law kV_law dc_law pm_law cd_law ct_law : Value}
{t_DATA : Tok}
{t_HALF : Tok}
{t_MARK : Tok}
    (X : K.In h) (G : h.Ns mainGlobals mg) (hfa : mg "law" = some (.ref fa))     (a__law_draws : PySem.W.nsIn K mainGlobals "_law_draws" = some (some (.ref f__law_draws)))
    (l__law_draws : K.lookup f__law_draws = some ⟨oc__law_draws, od__law_draws, .func (PySem.W.fnOf "_law_draws" "_law_draws" (defArgs s__law_draws) (defBody s__law_draws) (defScope s__law_draws) .none kV__law_draws dc__law_draws pm__law_draws an__law_draws cd__law_draws ct__law_draws), sl__law_draws⟩)
    (c__law_draws : PySem.W.codeIn K cd__law_draws "_law_draws" = true)
    (k__law_draws : PySem.W.keepIn K (.ref f__law_draws) = true)
    (a__law_stamp : PySem.W.nsIn K mainGlobals "_law_stamp" = some (some (.ref f__law_stamp)))
    (l__law_stamp : K.lookup f__law_stamp = some ⟨oc__law_stamp, od__law_stamp, .func (PySem.W.fnOf "_law_stamp" "_law_stamp" (defArgs s__law_stamp) (defBody s__law_stamp) (defScope s__law_stamp) .none kV__law_stamp dc__law_stamp pm__law_stamp an__law_stamp cd__law_stamp ct__law_stamp), sl__law_stamp⟩)
    (c__law_stamp : PySem.W.codeIn K cd__law_stamp "_law_stamp" = true)
    (k__law_stamp : PySem.W.keepIn K (.ref f__law_stamp) = true)
    (a_three_octets : PySem.W.nsIn K mainGlobals "three_octets" = some (some (.ref f_three_octets)))
    (l_three_octets : K.lookup f_three_octets = some ⟨oc_three_octets, od_three_octets, .func (PySem.W.fnOf "three_octets" "three_octets" (defArgs s_three_octets) (defBody s_three_octets) (defScope s_three_octets) .none kV_three_octets dc_three_octets pm_three_octets an_three_octets cd_three_octets ct_three_octets), sl_three_octets⟩)
    (c_three_octets : PySem.W.codeIn K cd_three_octets "three_octets" = true)
    (k_three_octets : PySem.W.keepIn K (.ref f_three_octets) = true)
    (a_check_octet : PySem.W.nsIn K mainGlobals "check_octet" = some (some (.ref f_check_octet)))
    (l_check_octet : K.lookup f_check_octet = some ⟨oc_check_octet, od_check_octet, .func (PySem.W.fnOf "check_octet" "check_octet" (defArgs s_check_octet) (defBody s_check_octet) (defScope s_check_octet) .none kV_check_octet dc_check_octet pm_check_octet an_check_octet cd_check_octet ct_check_octet), sl_check_octet⟩)
    (c_check_octet : PySem.W.codeIn K cd_check_octet "check_octet" = true)
    (k_check_octet : PySem.W.keepIn K (.ref f_check_octet) = true)
    (a_seal_half : PySem.W.nsIn K mainGlobals "seal_half" = some (some (.ref f_seal_half)))
    (l_seal_half : K.lookup f_seal_half = some ⟨oc_seal_half, od_seal_half, .func (PySem.W.fnOf "seal_half" "seal_half" (defArgs s_seal_half) (defBody s_seal_half) (defScope s_seal_half) .none kV_seal_half dc_seal_half pm_seal_half an_seal_half cd_seal_half ct_seal_half), sl_seal_half⟩)
    (c_seal_half : PySem.W.codeIn K cd_seal_half "seal_half" = true)
    (k_seal_half : PySem.W.keepIn K (.ref f_seal_half) = true)
    (a_seal : PySem.W.nsIn K mainGlobals "seal" = some (some (.ref f_seal)))
    (l_seal : K.lookup f_seal = some ⟨oc_seal, od_seal, .func (PySem.W.fnOf "seal" "seal" (defArgs s_seal) (defBody s_seal) (defScope s_seal) .none kV_seal dc_seal pm_seal an_seal cd_seal ct_seal), sl_seal⟩)
    (c_seal : PySem.W.codeIn K cd_seal "seal" = true)
    (k_seal : PySem.W.keepIn K (.ref f_seal) = true)
    (a__law_spoilt : PySem.W.nsIn K mainGlobals "_law_spoilt" = some (some (.ref f__law_spoilt)))
    (l__law_spoilt : K.lookup f__law_spoilt = some ⟨oc__law_spoilt, od__law_spoilt, .func (PySem.W.fnOf "_law_spoilt" "_law_spoilt" (defArgs s__law_spoilt) (defBody s__law_spoilt) (defScope s__law_spoilt) .none kV__law_spoilt dc__law_spoilt pm__law_spoilt an__law_spoilt cd__law_spoilt ct__law_spoilt), sl__law_spoilt⟩)
    (c__law_spoilt : PySem.W.codeIn K cd__law_spoilt "_law_spoilt" = true)
    (k__law_spoilt : PySem.W.keepIn K (.ref f__law_spoilt) = true)
    (a_join_halves : PySem.W.nsIn K mainGlobals "join_halves" = some (some (.ref f_join_halves)))
    (l_join_halves : K.lookup f_join_halves = some ⟨oc_join_halves, od_join_halves, .func (PySem.W.fnOf "join_halves" "join_halves" (defArgs s_join_halves) (defBody s_join_halves) (defScope s_join_halves) .none kV_join_halves dc_join_halves pm_join_halves an_join_halves cd_join_halves ct_join_halves), sl_join_halves⟩)
    (c_join_halves : PySem.W.codeIn K cd_join_halves "join_halves" = true)
    (k_join_halves : PySem.W.keepIn K (.ref f_join_halves) = true)
    (a_from_octets : PySem.W.nsIn K mainGlobals "from_octets" = some (some (.ref f_from_octets)))
    (l_from_octets : K.lookup f_from_octets = some ⟨oc_from_octets, od_from_octets, .func (PySem.W.fnOf "from_octets" "from_octets" (defArgs s_from_octets) (defBody s_from_octets) (defScope s_from_octets) .none kV_from_octets dc_from_octets pm_from_octets an_from_octets cd_from_octets ct_from_octets), sl_from_octets⟩)
    (c_from_octets : PySem.W.codeIn K cd_from_octets "from_octets" = true)
    (k_from_octets : PySem.W.keepIn K (.ref f_from_octets) = true)
    (a_read_half : PySem.W.nsIn K mainGlobals "read_half" = some (some (.ref f_read_half)))
    (l_read_half : K.lookup f_read_half = some ⟨oc_read_half, od_read_half, .func (PySem.W.fnOf "read_half" "read_half" (defArgs s_read_half) (defBody s_read_half) (defScope s_read_half) .none kV_read_half dc_read_half pm_read_half an_read_half cd_read_half ct_read_half), sl_read_half⟩)
    (c_read_half : PySem.W.codeIn K cd_read_half "read_half" = true)
    (k_read_half : PySem.W.keepIn K (.ref f_read_half) = true)
    (a_read_sector : PySem.W.nsIn K mainGlobals "read_sector" = some (some (.ref f_read_sector)))
    (l_read_sector : K.lookup f_read_sector = some ⟨oc_read_sector, od_read_sector, .func (PySem.W.fnOf "read_sector" "read_sector" (defArgs s_read_sector) (defBody s_read_sector) (defScope s_read_sector) .none kV_read_sector dc_read_sector pm_read_sector an_read_sector cd_read_sector ct_read_sector), sl_read_sector⟩)
    (c_read_sector : PySem.W.codeIn K cd_read_sector "read_sector" = true)
    (k_read_sector : PySem.W.keepIn K (.ref f_read_sector) = true)
    (a__law_is_number : PySem.W.nsIn K mainGlobals "_law_is_number" = some (some (.ref f__law_is_number)))
    (l__law_is_number : K.lookup f__law_is_number = some ⟨oc__law_is_number, od__law_is_number, .func (PySem.W.fnOf "_law_is_number" "_law_is_number" (defArgs s__law_is_number) (defBody s__law_is_number) (defScope s__law_is_number) .none kV__law_is_number dc__law_is_number pm__law_is_number an__law_is_number cd__law_is_number ct__law_is_number), sl__law_is_number⟩)
    (c__law_is_number : PySem.W.codeIn K cd__law_is_number "_law_is_number" = true)
    (k__law_is_number : PySem.W.keepIn K (.ref f__law_is_number) = true)
    (a__law_octets_only : PySem.W.nsIn K mainGlobals "_law_octets_only" = some (some (.ref f__law_octets_only)))
    (l__law_octets_only : K.lookup f__law_octets_only = some ⟨oc__law_octets_only, od__law_octets_only, .func (PySem.W.fnOf "_law_octets_only" "_law_octets_only" (defArgs s__law_octets_only) (defBody s__law_octets_only) (defScope s__law_octets_only) .none kV__law_octets_only dc__law_octets_only pm__law_octets_only an__law_octets_only cd__law_octets_only ct__law_octets_only), sl__law_octets_only⟩)
    (c__law_octets_only : PySem.W.codeIn K cd__law_octets_only "_law_octets_only" = true)
    (k__law_octets_only : PySem.W.keepIn K (.ref f__law_octets_only) = true)
    (a__law_reads : PySem.W.nsIn K mainGlobals "_law_reads" = some (some (.ref f__law_reads)))
    (l__law_reads : K.lookup f__law_reads = some ⟨oc__law_reads, od__law_reads, .func (PySem.W.fnOf "_law_reads" "_law_reads" (defArgs s__law_reads) (defBody s__law_reads) (defScope s__law_reads) .none kV__law_reads dc__law_reads pm__law_reads an__law_reads cd__law_reads ct__law_reads), sl__law_reads⟩)
    (c__law_reads : PySem.W.codeIn K cd__law_reads "_law_reads" = true)
    (k__law_reads : PySem.W.keepIn K (.ref f__law_reads) = true)
    (a_newest_stamp : PySem.W.nsIn K mainGlobals "newest_stamp" = some (some (.ref f_newest_stamp)))
    (l_newest_stamp : K.lookup f_newest_stamp = some ⟨oc_newest_stamp, od_newest_stamp, .func (PySem.W.fnOf "newest_stamp" "newest_stamp" (defArgs s_newest_stamp) (defBody s_newest_stamp) (defScope s_newest_stamp) .none kV_newest_stamp dc_newest_stamp pm_newest_stamp an_newest_stamp cd_newest_stamp ct_newest_stamp), sl_newest_stamp⟩)
    (c_newest_stamp : PySem.W.codeIn K cd_newest_stamp "newest_stamp" = true)
    (k_newest_stamp : PySem.W.keepIn K (.ref f_newest_stamp) = true)
    (a__law_half : PySem.W.nsIn K mainGlobals "_law_half" = some (some (.ref f__law_half)))
    (l__law_half : K.lookup f__law_half = some ⟨oc__law_half, od__law_half, .func (PySem.W.fnOf "_law_half" "_law_half" (defArgs s__law_half) (defBody s__law_half) (defScope s__law_half) .none kV__law_half dc__law_half pm__law_half an__law_half cd__law_half ct__law_half), sl__law_half⟩)
    (c__law_half : PySem.W.codeIn K cd__law_half "_law_half" = true)
    (k__law_half : PySem.W.keepIn K (.ref f__law_half) = true)
    (a__law_sector : PySem.W.nsIn K mainGlobals "_law_sector" = some (some (.ref f__law_sector)))
    (l__law_sector : K.lookup f__law_sector = some ⟨oc__law_sector, od__law_sector, .func (PySem.W.fnOf "_law_sector" "_law_sector" (defArgs s__law_sector) (defBody s__law_sector) (defScope s__law_sector) .none kV__law_sector dc__law_sector pm__law_sector an__law_sector cd__law_sector ct__law_sector), sl__law_sector⟩)
    (c__law_sector : PySem.W.codeIn K cd__law_sector "_law_sector" = true)
    (k__law_sector : PySem.W.keepIn K (.ref f__law_sector) = true)
    (a__law_rotten_all : PySem.W.nsIn K mainGlobals "_law_rotten_all" = some (some (.ref f__law_rotten_all)))
    (l__law_rotten_all : K.lookup f__law_rotten_all = some ⟨oc__law_rotten_all, od__law_rotten_all, .func (PySem.W.fnOf "_law_rotten_all" "_law_rotten_all" (defArgs s__law_rotten_all) (defBody s__law_rotten_all) (defScope s__law_rotten_all) .none kV__law_rotten_all dc__law_rotten_all pm__law_rotten_all an__law_rotten_all cd__law_rotten_all ct__law_rotten_all), sl__law_rotten_all⟩)
    (c__law_rotten_all : PySem.W.codeIn K cd__law_rotten_all "_law_rotten_all" = true)
    (k__law_rotten_all : PySem.W.keepIn K (.ref f__law_rotten_all) = true)
    (a_law : PySem.W.nsIn K mainGlobals "law" = some (some (.ref f_law)))
    (l_law : K.lookup f_law = some ⟨oc_law, od_law, .func (PySem.W.fnOf "law" "law" (defArgs s_law) (defBody s_law) (defScope s_law) .none kV_law dc_law pm_law an_law cd_law ct_law), sl_law⟩)
    (c_law : PySem.W.codeIn K cd_law "law" = true)
    (k_law : PySem.W.keepIn K (.ref f_law) = true)
    (z_abs : PySem.W.nsIn K mainGlobals "abs" = some none)
    (z_all : PySem.W.nsIn K mainGlobals "all" = some none)
    (z_any : PySem.W.nsIn K mainGlobals "any" = some none)
    (z_bool : PySem.W.nsIn K mainGlobals "bool" = some none)
    (z_int : PySem.W.nsIn K mainGlobals "int" = some none)
    (z_isinstance : PySem.W.nsIn K mainGlobals "isinstance" = some none)
    (z_len : PySem.W.nsIn K mainGlobals "len" = some none)
    (z_list : PySem.W.nsIn K mainGlobals "list" = some none)
    (z_max : PySem.W.nsIn K mainGlobals "max" = some none)
    (z_range : PySem.W.nsIn K mainGlobals "range" = some none)
    (z_sum : PySem.W.nsIn K mainGlobals "sum" = some none)
    (z_tuple : PySem.W.nsIn K mainGlobals "tuple" = some none)
    (a_DATA : PySem.W.nsIn K mainGlobals "DATA" = some (some (.int 11 t_DATA)))
    (a_HALF : PySem.W.nsIn K mainGlobals "HALF" = some (some (.int 16 t_HALF)))
    (a_MARK : PySem.W.nsIn K mainGlobals "MARK" = some (some (.int 197 t_MARK))) :
    ∃ fd : FuncData, (∀ (s : Shared) (v : Value), BindsTo s fd ⟨[v], []⟩ [("script", v)]) ∧ ∀ base : Heap, K.In base → base.Ns mainGlobals mg → FnOk l.prog w K mg base (L2.CX l.prog w) 6 fa fd ["script"] (spLaw K) := by
  have e := hfa.symm.trans (PySem.W.mg_of X G a_law)
  cases e
  have F__law_draws := fun_mk (st := s__law_draws) l__law_draws c__law_draws k__law_draws
  have F__law_stamp := fun_mk (st := s__law_stamp) l__law_stamp c__law_stamp k__law_stamp
  have F_three_octets := fun_mk (st := s_three_octets) l_three_octets c_three_octets k_three_octets
  have F_check_octet := fun_mk (st := s_check_octet) l_check_octet c_check_octet k_check_octet
  have F_seal_half := fun_mk (st := s_seal_half) l_seal_half c_seal_half k_seal_half
  have F_seal := fun_mk (st := s_seal) l_seal c_seal k_seal
  have F__law_spoilt := fun_mk (st := s__law_spoilt) l__law_spoilt c__law_spoilt k__law_spoilt
  have F_join_halves := fun_mk (st := s_join_halves) l_join_halves c_join_halves k_join_halves
  have F_from_octets := fun_mk (st := s_from_octets) l_from_octets c_from_octets k_from_octets
  have F_read_half := fun_mk (st := s_read_half) l_read_half c_read_half k_read_half
  have F_read_sector := fun_mk (st := s_read_sector) l_read_sector c_read_sector k_read_sector
  have F__law_is_number := fun_mk (st := s__law_is_number) l__law_is_number c__law_is_number k__law_is_number
  have F__law_octets_only := fun_mk (st := s__law_octets_only) l__law_octets_only c__law_octets_only k__law_octets_only
  have F__law_reads := fun_mk (st := s__law_reads) l__law_reads c__law_reads k__law_reads
  have F_newest_stamp := fun_mk (st := s_newest_stamp) l_newest_stamp c_newest_stamp k_newest_stamp
  have F__law_half := fun_mk (st := s__law_half) l__law_half c__law_half k__law_half
  have F__law_sector := fun_mk (st := s__law_sector) l__law_sector c__law_sector k__law_sector
  have F__law_rotten_all := fun_mk (st := s__law_rotten_all) l__law_rotten_all c__law_rotten_all k__law_rotten_all
  have F_law := fun_mk (st := s_law) l_law c_law k_law
  let tx : Tx K mg := {
    a__law_draws := f__law_draws,
    d__law_draws := _,
    F__law_draws := F__law_draws,
    b__law_draws := (F__law_draws.binds (ps := ["script", "many"]) fun _ _ _ _ _ _ us hl => match us, hl with | [_, _], _ => rfl),
    g__law_draws := PySem.W.mg_of X G a__law_draws,
    a__law_stamp := f__law_stamp,
    d__law_stamp := _,
    F__law_stamp := F__law_stamp,
    b__law_stamp := (F__law_stamp.binds (ps := ["one", "two"]) fun _ _ _ _ _ _ us hl => match us, hl with | [_, _], _ => rfl),
    g__law_stamp := PySem.W.mg_of X G a__law_stamp,
    a_three_octets := f_three_octets,
    d_three_octets := _,
    F_three_octets := F_three_octets,
    b_three_octets := (F_three_octets.binds (ps := ["number"]) fun _ _ _ _ _ _ us hl => match us, hl with | [_], _ => rfl),
    g_three_octets := PySem.W.mg_of X G a_three_octets,
    a_check_octet := f_check_octet,
    d_check_octet := _,
    F_check_octet := F_check_octet,
    b_check_octet := (F_check_octet.binds (ps := ["octets"]) fun _ _ _ _ _ _ us hl => match us, hl with | [_], _ => rfl),
    g_check_octet := PySem.W.mg_of X G a_check_octet,
    a_seal_half := f_seal_half,
    d_seal_half := _,
    F_seal_half := F_seal_half,
    b_seal_half := (F_seal_half.binds (ps := ["stamp", "data"]) fun _ _ _ _ _ _ us hl => match us, hl with | [_, _], _ => rfl),
    g_seal_half := PySem.W.mg_of X G a_seal_half,
    a_seal := f_seal,
    d_seal := _,
    F_seal := F_seal,
    b_seal := (F_seal.binds (ps := ["stamp", "data"]) fun _ _ _ _ _ _ us hl => match us, hl with | [_, _], _ => rfl),
    g_seal := PySem.W.mg_of X G a_seal,
    a__law_spoilt := f__law_spoilt,
    d__law_spoilt := _,
    F__law_spoilt := F__law_spoilt,
    b__law_spoilt := (F__law_spoilt.binds (ps := ["sector", "place", "draw"]) fun _ _ _ _ _ _ us hl => match us, hl with | [_, _, _], _ => rfl),
    g__law_spoilt := PySem.W.mg_of X G a__law_spoilt,
    a_join_halves := f_join_halves,
    d_join_halves := _,
    F_join_halves := F_join_halves,
    b_join_halves := (F_join_halves.binds (ps := ["left", "right"]) fun _ _ _ _ _ _ us hl => match us, hl with | [_, _], _ => rfl),
    g_join_halves := PySem.W.mg_of X G a_join_halves,
    a_from_octets := f_from_octets,
    d_from_octets := _,
    F_from_octets := F_from_octets,
    b_from_octets := (F_from_octets.binds (ps := ["octets"]) fun _ _ _ _ _ _ us hl => match us, hl with | [_], _ => rfl),
    g_from_octets := PySem.W.mg_of X G a_from_octets,
    a_read_half := f_read_half,
    d_read_half := _,
    F_read_half := F_read_half,
    b_read_half := (F_read_half.binds (ps := ["half"]) fun _ _ _ _ _ _ us hl => match us, hl with | [_], _ => rfl),
    g_read_half := PySem.W.mg_of X G a_read_half,
    a_read_sector := f_read_sector,
    d_read_sector := _,
    F_read_sector := F_read_sector,
    b_read_sector := (F_read_sector.binds (ps := ["sector"]) fun _ _ _ _ _ _ us hl => match us, hl with | [_], _ => rfl),
    g_read_sector := PySem.W.mg_of X G a_read_sector,
    a__law_is_number := f__law_is_number,
    d__law_is_number := _,
    F__law_is_number := F__law_is_number,
    b__law_is_number := (F__law_is_number.binds (ps := ["value"]) fun _ _ _ _ _ _ us hl => match us, hl with | [_], _ => rfl),
    g__law_is_number := PySem.W.mg_of X G a__law_is_number,
    a__law_octets_only := f__law_octets_only,
    d__law_octets_only := _,
    F__law_octets_only := F__law_octets_only,
    b__law_octets_only := (F__law_octets_only.binds (ps := ["values"]) fun _ _ _ _ _ _ us hl => match us, hl with | [_], _ => rfl),
    g__law_octets_only := PySem.W.mg_of X G a__law_octets_only,
    a__law_reads := f__law_reads,
    d__law_reads := _,
    F__law_reads := F__law_reads,
    b__law_reads := (F__law_reads.binds (ps := ["sector", "due"]) fun _ _ _ _ _ _ us hl => match us, hl with | [_, _], _ => rfl),
    g__law_reads := PySem.W.mg_of X G a__law_reads,
    a_newest_stamp := f_newest_stamp,
    d_newest_stamp := _,
    F_newest_stamp := F_newest_stamp,
    b_newest_stamp := (F_newest_stamp.binds (ps := ["sectors"]) fun _ _ _ _ _ _ us hl => match us, hl with | [_], _ => rfl),
    g_newest_stamp := PySem.W.mg_of X G a_newest_stamp,
    a__law_half := f__law_half,
    d__law_half := _,
    F__law_half := F__law_half,
    b__law_half := (F__law_half.binds (ps := ["stamp", "data"]) fun _ _ _ _ _ _ us hl => match us, hl with | [_, _], _ => rfl),
    g__law_half := PySem.W.mg_of X G a__law_half,
    a__law_sector := f__law_sector,
    d__law_sector := _,
    F__law_sector := F__law_sector,
    b__law_sector := (F__law_sector.binds (ps := ["stamp", "data"]) fun _ _ _ _ _ _ us hl => match us, hl with | [_, _], _ => rfl),
    g__law_sector := PySem.W.mg_of X G a__law_sector,
    a__law_rotten_all := f__law_rotten_all,
    d__law_rotten_all := _,
    F__law_rotten_all := F__law_rotten_all,
    b__law_rotten_all := (F__law_rotten_all.binds (ps := ["sectors", "draws"]) fun _ _ _ _ _ _ us hl => match us, hl with | [_, _], _ => rfl),
    g__law_rotten_all := PySem.W.mg_of X G a__law_rotten_all,
    a_law := fa,
    d_law := _,
    F_law := F_law,
    b_law := (F_law.binds (ps := ["script"]) fun _ _ _ _ _ _ us hl => match us, hl with | [_], _ => rfl),
    g_law := PySem.W.mg_of X G a_law,
    b_abs := PySem.W.mg_none_of X G z_abs,
    b_all := PySem.W.mg_none_of X G z_all,
    b_any := PySem.W.mg_none_of X G z_any,
    b_bool := PySem.W.mg_none_of X G z_bool,
    b_int := PySem.W.mg_none_of X G z_int,
    b_isinstance := PySem.W.mg_none_of X G z_isinstance,
    b_len := PySem.W.mg_none_of X G z_len,
    b_list := PySem.W.mg_none_of X G z_list,
    b_max := PySem.W.mg_none_of X G z_max,
    b_range := PySem.W.mg_none_of X G z_range,
    b_sum := PySem.W.mg_none_of X G z_sum,
    b_tuple := PySem.W.mg_none_of X G z_tuple,
    k_DATA := t_DATA,
    c_DATA := PySem.W.mg_of X G a_DATA,
    k_HALF := t_HALF,
    c_HALF := PySem.W.mg_of X G a_HALF,
    k_MARK := t_MARK,
    c_MARK := PySem.W.mg_of X G a_MARK }
  exact ⟨tx.d_law, fun s v => .of_eq rfl, fun base _ _ => law_of law_true (ok_law tx)⟩
end K13
open PySem PySem.W PyProof.Rows
set_option maxHeartbeats 0 in
theorem PySem.Challenge.cw_cairnhouse_k13_sealed_sectors_holds : PySem.Challenge.rw_cairnhouse_k13_sealed_sectors.Holds := by
  w_on; o_law; k_head; (case hw => w_witness2)
  k_fill
  refine L2.walk_of (l := PySem.Challenge.rw_cairnhouse_k13_sealed_sectors) (n := 63) (k := 6) (x := "script") (CX := fun w => L2.CX PySem.Challenge.rw_cairnhouse_k13_sealed_sectors.prog w) (sp := fun w => Cn.spLaw _) rfl (by decide) rfl ⟨rfl, by decide, by decide⟩ (fun w h Y => PySem.W.kIn_of Y) ?F (fun _ _ a ns hl _ hS => ⟨a, ns, rfl, hS, hl, fun _ => rfl⟩) (fun _ _ _ _ _ h => Cn.cx_false h)
  case F =>
    intro w mg fa h KX G hmg
    refine' K13.all_mk KX G hmg ?a__law_draws ?l__law_draws ?c__law_draws ?k__law_draws ?a__law_stamp ?l__law_stamp ?c__law_stamp ?k__law_stamp ?a_three_octets ?l_three_octets ?c_three_octets ?k_three_octets ?a_check_octet ?l_check_octet ?c_check_octet ?k_check_octet ?a_seal_half ?l_seal_half ?c_seal_half ?k_seal_half ?a_seal ?l_seal ?c_seal ?k_seal ?a__law_spoilt ?l__law_spoilt ?c__law_spoilt ?k__law_spoilt ?a_join_halves ?l_join_halves ?c_join_halves ?k_join_halves ?a_from_octets ?l_from_octets ?c_from_octets ?k_from_octets ?a_read_half ?l_read_half ?c_read_half ?k_read_half ?a_read_sector ?l_read_sector ?c_read_sector ?k_read_sector ?a__law_is_number ?l__law_is_number ?c__law_is_number ?k__law_is_number ?a__law_octets_only ?l__law_octets_only ?c__law_octets_only ?k__law_octets_only ?a__law_reads ?l__law_reads ?c__law_reads ?k__law_reads ?a_newest_stamp ?l_newest_stamp ?c_newest_stamp ?k_newest_stamp ?a__law_half ?l__law_half ?c__law_half ?k__law_half ?a__law_sector ?l__law_sector ?c__law_sector ?k__law_sector ?a__law_rotten_all ?l__law_rotten_all ?c__law_rotten_all ?k__law_rotten_all ?a_law ?l_law ?c_law ?k_law ?z_abs ?z_all ?z_any ?z_bool ?z_int ?z_isinstance ?z_len ?z_list ?z_max ?z_range ?z_sum ?z_tuple ?a_DATA ?a_HALF ?a_MARK
    (case a__law_draws => k_is); (case l__law_draws => k_is); (case c__law_draws => k_is); (case k__law_draws => k_is); (case a__law_stamp => k_is); (case l__law_stamp => k_is); (case c__law_stamp => k_is); (case k__law_stamp => k_is); (case a_three_octets => k_is); (case l_three_octets => k_is); (case c_three_octets => k_is); (case k_three_octets => k_is); (case a_check_octet => k_is); (case l_check_octet => k_is); (case c_check_octet => k_is); (case k_check_octet => k_is); (case a_seal_half => k_is); (case l_seal_half => k_is); (case c_seal_half => k_is); (case k_seal_half => k_is); (case a_seal => k_is); (case l_seal => k_is); (case c_seal => k_is); (case k_seal => k_is); (case a__law_spoilt => k_is); (case l__law_spoilt => k_is); (case c__law_spoilt => k_is); (case k__law_spoilt => k_is); (case a_join_halves => k_is); (case l_join_halves => k_is); (case c_join_halves => k_is); (case k_join_halves => k_is); (case a_from_octets => k_is); (case l_from_octets => k_is); (case c_from_octets => k_is); (case k_from_octets => k_is); (case a_read_half => k_is); (case l_read_half => k_is); (case c_read_half => k_is); (case k_read_half => k_is); (case a_read_sector => k_is); (case l_read_sector => k_is); (case c_read_sector => k_is); (case k_read_sector => k_is); (case a__law_is_number => k_is); (case l__law_is_number => k_is); (case c__law_is_number => k_is); (case k__law_is_number => k_is); (case a__law_octets_only => k_is); (case l__law_octets_only => k_is); (case c__law_octets_only => k_is); (case k__law_octets_only => k_is); (case a__law_reads => k_is); (case l__law_reads => k_is); (case c__law_reads => k_is); (case k__law_reads => k_is); (case a_newest_stamp => k_is); (case l_newest_stamp => k_is); (case c_newest_stamp => k_is); (case k_newest_stamp => k_is); (case a__law_half => k_is); (case l__law_half => k_is); (case c__law_half => k_is); (case k__law_half => k_is); (case a__law_sector => k_is); (case l__law_sector => k_is); (case c__law_sector => k_is); (case k__law_sector => k_is); (case a__law_rotten_all => k_is); (case l__law_rotten_all => k_is); (case c__law_rotten_all => k_is); (case k__law_rotten_all => k_is); (case a_law => k_is); (case l_law => k_is); (case c_law => k_is); (case k_law => k_is); (case z_abs => k_is); (case z_all => k_is); (case z_any => k_is); (case z_bool => k_is); (case z_int => k_is); (case z_isinstance => k_is); (case z_len => k_is); (case z_list => k_is); (case z_max => k_is); (case z_range => k_is); (case z_sum => k_is); (case z_tuple => k_is); (case a_DATA => k_is); (case a_HALF => k_is); (case a_MARK => k_is)
