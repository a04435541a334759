import PyProof.Rows.All
import Wide.All
import OpenK.AllK
import Wide.FinOn
import HandS.ForMost
import HandS.Wide
import HandS.EndBits
import HandS.IsInst
import HandS.RaiseMore
import HandS.Zip
import KE.KDictList
import HandS.More
import HandS.ListItems
import HandS.Replace
import PySem.Challenge.RW_tranchefall_k30_looks_turn_the_order
set_option Elab.async false
set_option linter.all false
set_option maxRecDepth 100000
/-! Direct style over the hand layer: trees of data for values, total functions for code. -/
namespace DL
open PySem PySem.Spec PyProof.Rows L2
abbrev St := L2.St

/-- data without places: what is never changed any more -/
inductive D where
  | non | bl (b : Bool) | int (i : Int) | str (s : Str) | lst (ds : List D) | tup (ds : List D) | dic (kvs : List (Key × D)) | dit (kvs : List (List Key × D)) | obj (n : Str) (fs : List (Str × D)) | al (a : Addr)
/-- trees with lists and dicts of one holder alone, which may still be changed -/
inductive T where
  | p (d : D) | lst (ts : List T) | tup (ts : List T) | dic (kvs : List (Key × T)) | dit (kvs : List (List Key × T)) | obj (n : Str) (fs : List (Str × T)) | box (a : Addr) (t : T) | al (a : Addr)

mutual
def T.toD : T → D
  | .p d => d
  | .lst ts => .lst (T.toDs ts)
  | .tup ts => .tup (T.toDs ts)
  | .dic kvs => .dic (T.toKs kvs)
  | .dit kvs => .dit (T.toKt kvs)
  | .obj n fs => .obj n (T.toKf fs)
  | .box _ t => t.toD
  | .al a => .al a
def T.toDs : List T → List D
  | [] => []
  | t :: ts => t.toD :: T.toDs ts
def T.toKs : List (Key × T) → List (Key × D)
  | [] => []
  | (k, t) :: r => (k, t.toD) :: T.toKs r
def T.toKt : List (List Key × T) → List (List Key × D)
  | [] => []
  | (k, t) :: r => (k, t.toD) :: T.toKt r
def T.toKf : List (Str × T) → List (Str × D)
  | [] => []
  | (k, t) :: r => (k, t.toD) :: T.toKf r
end
theorem toDs_map : ∀ ts : List T, T.toDs ts = ts.map T.toD
  | [] => rfl
  | t :: ts => by rw [T.toDs, toDs_map ts]; rfl
theorem toDs_p (ds : List D) : T.toDs (ds.map T.p) = ds := by
  rw [toDs_map, List.map_map]
  show ds.map (fun d => (T.p d).toD) = ds
  simp [T.toD]

/-- the class of a name -/
def ClsN (K : PySem.W.Frag) (n : Str) (C : Addr) : Prop := PySem.W.nsIn K mainGlobals n = some (some (.ref C))
mutual
def RpD (K : PySem.W.Frag) (G : Hp) : D → V → Prop
  | .non, v => v = .non
  | .bl b, v => v = .bl b
  | .int i, v => v = .int i
  | .str s, v => v = .str s
  | .lst ds, v => ∃ a vs, v = .ref a ∧ Rd G a (.lst vs) ∧ RpDs K G ds vs
  | .tup ds, v => ∃ a vs, v = .ref a ∧ G a = some (.tup vs) ∧ RpDs K G ds vs
  | .dic kvs, v => ∃ a ws, v = .ref a ∧ Rd G a (.dK ws) ∧ RpKs K G kvs ws
  | .dit kvs, v => ∃ a ws, v = .ref a ∧ Rd G a (.dT ws) ∧ RpKt K G kvs ws
  | .obj n fs, v => ∃ a C dx ws, v = .ref a ∧ ClsN K n C ∧ G a = some (.ins C dx ws) ∧ RpKf K G fs ws
  | .al a, v => a ≠ 0 → v = .ref (a - 1)
def RpDs (K : PySem.W.Frag) (G : Hp) : List D → List V → Prop
  | [], vs => vs = []
  | d :: ds, vs => ∃ v r, vs = v :: r ∧ RpD K G d v ∧ RpDs K G ds r
def RpKs (K : PySem.W.Frag) (G : Hp) : List (Key × D) → List (Key × V) → Prop
  | [], vs => vs = []
  | (k, d) :: ds, vs => ∃ v r, vs = (k, v) :: r ∧ RpD K G d v ∧ RpKs K G ds r
def RpKt (K : PySem.W.Frag) (G : Hp) : List (List Key × D) → List (List Key × V) → Prop
  | [], vs => vs = []
  | (k, d) :: ds, vs => ∃ v r, vs = (k, v) :: r ∧ RpD K G d v ∧ RpKt K G ds r
def RpKf (K : PySem.W.Frag) (G : Hp) : List (Str × D) → List (Str × V) → Prop
  | [], vs => vs = []
  | (k, d) :: ds, vs => ∃ v r, vs = (k, v) :: r ∧ RpD K G d v ∧ RpKf K G ds r
end

theorem Same.rd {H H' : Hp} {a : Addr} {u : HO} (e : Same H H') (h : Rd H a u) : Rd H' a u := by
  rcases h with h | ⟨o, h⟩
  · exact .inl (e _ _ h)
  · exact .inr ⟨o, e _ _ h⟩
theorem tup_seq {K : PySem.W.Frag} {G H : Hp} {a : Addr} {xs : List V} (s : Same G H) (h : G a = some (.tup xs)) : SqT K H a xs := .inl (.inl (s a _ h))
theorem tup_sq {K : PySem.W.Frag} {G : Hp} {a : Addr} {xs : List V} (h : G a = some (.tup xs)) : SqT K G a xs := .inl (.inl h)
theorem Same.sqT {K : PySem.W.Frag} {H H' : Hp} {a : Addr} {xs : List V} (e : Same H H') (h : SqT K H a xs) : SqT K H' a xs := by
  rcases h with (h | ⟨o, h⟩) | h
  · exact .inl (.inl (e _ _ h))
  · exact .inl (.inr ⟨o, e _ _ h⟩)
  · exact .inr h
section
variable {K : PySem.W.Frag} {G G' H H' : Hp}
mutual
theorem RpD.mono (e : Same G G') : ∀ (d : D) {v : V}, RpD K G d v → RpD K G' d v
  | .non, _, h => h
  | .bl _, _, h => h
  | .int _, _, h => h
  | .str _, _, h => h
  | .lst ds, _, ⟨a, vs, h1, h2, h3⟩ => ⟨a, vs, h1, Same.rd e h2, RpDs.mono e ds h3⟩
  | .tup ds, _, ⟨a, vs, h1, h2, h3⟩ => ⟨a, vs, h1, e a _ h2, RpDs.mono e ds h3⟩
  | .dic kvs, _, ⟨a, ws, h1, h2, h3⟩ => ⟨a, ws, h1, Same.rd e h2, RpKs.mono e kvs h3⟩
  | .dit kvs, _, ⟨a, ws, h1, h2, h3⟩ => ⟨a, ws, h1, Same.rd e h2, RpKt.mono e kvs h3⟩
  | .obj n fs, _, ⟨a, C, dx, ws, h1, h2, h3, h4⟩ => ⟨a, C, dx, ws, h1, h2, e _ _ h3, RpKf.mono e fs h4⟩
  | .al _, _, h => h
theorem RpDs.mono (e : Same G G') : ∀ (ds : List D) {vs : List V}, RpDs K G ds vs → RpDs K G' ds vs
  | [], _, h => h
  | d :: ds, _, ⟨v, r, h1, h2, h3⟩ => ⟨v, r, h1, RpD.mono e d h2, RpDs.mono e ds h3⟩
theorem RpKs.mono (e : Same G G') : ∀ (ds : List (Key × D)) {vs : List (Key × V)}, RpKs K G ds vs → RpKs K G' ds vs
  | [], _, h => h
  | (k, d) :: ds, _, ⟨v, r, h1, h2, h3⟩ => ⟨v, r, h1, RpD.mono e d h2, RpKs.mono e ds h3⟩
theorem RpKt.mono (e : Same G G') : ∀ (ds : List (List Key × D)) {vs : List (List Key × V)}, RpKt K G ds vs → RpKt K G' ds vs
  | [], _, h => h
  | (k, d) :: ds, _, ⟨v, r, h1, h2, h3⟩ => ⟨v, r, h1, RpD.mono e d h2, RpKt.mono e ds h3⟩
theorem RpKf.mono (e : Same G G') : ∀ (ds : List (Str × D)) {vs : List (Str × V)}, RpKf K G ds vs → RpKf K G' ds vs
  | [], _, h => h
  | (k, d) :: ds, _, ⟨v, r, h1, h2, h3⟩ => ⟨v, r, h1, RpD.mono e d h2, RpKf.mono e ds h3⟩
end
theorem RpDs.len : ∀ {ds : List D} {vs : List V}, RpDs K G ds vs → vs.length = ds.length
  | [], _, h => by rw [show _ = _ from h]; rfl
  | d :: ds, _, ⟨v, r, h1, h2, h3⟩ => by rw [h1, List.length_cons, List.length_cons, RpDs.len h3]
theorem RpDs.get : ∀ {ds : List D} {vs : List V} {i : Nat} {d : D}, RpDs K G ds vs → ds[i]? = some d → ∃ v, vs[i]? = some v ∧ RpD K G d v
  | [], _, _, _, _, e => by simp at e
  | d :: ds, _, 0, d', ⟨v, r, h1, h2, h3⟩, e => by
    simp at e; subst e; subst h1; exact ⟨v, rfl, h2⟩
  | d :: ds, _, i + 1, d', ⟨v, r, h1, h2, h3⟩, e => by
    subst h1
    obtain ⟨u, h4, h5⟩ := RpDs.get (i := i) h3 (by simpa using e)
    exact ⟨u, by simpa using h4, h5⟩
theorem RpDs.append : ∀ {ds es : List D} {vs ws : List V}, RpDs K G ds vs → RpDs K G es ws → RpDs K G (ds ++ es) (vs ++ ws)
  | [], _, _, _, h, h' => by rw [show _ = _ from h]; exact h'
  | d :: ds, _, _, _, ⟨v, r, h1, h2, h3⟩, h' => by
    subst h1
    exact ⟨v, r ++ _, rfl, h2, RpDs.append h3 h'⟩
theorem RpDs.take : ∀ {ds : List D} {vs : List V} (n : Nat), RpDs K G ds vs → RpDs K G (ds.take n) (vs.take n)
  | ds, vs, 0, _ => by simp [RpDs]
  | [], _, n + 1, h => by rw [show _ = _ from h]; simp [RpDs]
  | d :: ds, _, n + 1, ⟨v, r, h1, h2, h3⟩ => by
    subst h1
    exact ⟨v, r.take n, rfl, h2, RpDs.take n h3⟩
theorem RpDs.drop : ∀ {ds : List D} {vs : List V} (n : Nat), RpDs K G ds vs → RpDs K G (ds.drop n) (vs.drop n)
  | ds, vs, 0, h => by simpa using h
  | [], _, n + 1, h => by rw [show _ = _ from h]; simp [RpDs]
  | d :: ds, _, n + 1, ⟨v, r, h1, h2, h3⟩ => by
    subst h1
    simpa using RpDs.drop n h3

mutual
def Rp (K : PySem.W.Frag) (G H : Hp) : T → V → List Addr → Prop
  | .p d, v, o => RpD K G d v ∧ o = []
  | .lst ts, v, o => ∃ a vs o', v = .ref a ∧ H a = some (.lst vs) ∧ RpTs K G H ts vs o' ∧ o = a :: o'
  | .tup ts, v, o => ∃ a vs, v = .ref a ∧ G a = some (.tup vs) ∧ RpTs K G H ts vs o
  | .dic kvs, v, o => ∃ a ws o', v = .ref a ∧ H a = some (.dK ws) ∧ RpTk K G H kvs ws o' ∧ o = a :: o'
  | .dit kvs, v, o => ∃ a ws o', v = .ref a ∧ H a = some (.dT ws) ∧ RpTt K G H kvs ws o' ∧ o = a :: o'
  | .obj n fs, v, o => ∃ a C dx ws o', v = .ref a ∧ ClsN K n C ∧ H a = some (.ins C dx ws) ∧ RpTf K G H fs ws o' ∧ o = a :: o'
  | .box a t, v, o => v = .ref a ∧ Rp K G H t v o
  | .al a, v, o => (a ≠ 0 → v = .ref (a - 1)) ∧ o = []
def RpTs (K : PySem.W.Frag) (G H : Hp) : List T → List V → List Addr → Prop
  | [], vs, o => vs = [] ∧ o = []
  | t :: ts, vs, o => ∃ v r o1 o2, vs = v :: r ∧ Rp K G H t v o1 ∧ RpTs K G H ts r o2 ∧ o = o1 ++ o2
def RpTk (K : PySem.W.Frag) (G H : Hp) : List (Key × T) → List (Key × V) → List Addr → Prop
  | [], vs, o => vs = [] ∧ o = []
  | (k, t) :: ts, vs, o => ∃ v r o1 o2, vs = (k, v) :: r ∧ Rp K G H t v o1 ∧ RpTk K G H ts r o2 ∧ o = o1 ++ o2
def RpTt (K : PySem.W.Frag) (G H : Hp) : List (List Key × T) → List (List Key × V) → List Addr → Prop
  | [], vs, o => vs = [] ∧ o = []
  | (k, t) :: ts, vs, o => ∃ v r o1 o2, vs = (k, v) :: r ∧ Rp K G H t v o1 ∧ RpTt K G H ts r o2 ∧ o = o1 ++ o2
def RpTf (K : PySem.W.Frag) (G H : Hp) : List (Str × T) → List (Str × V) → List Addr → Prop
  | [], vs, o => vs = [] ∧ o = []
  | (k, t) :: ts, vs, o => ∃ v r o1 o2, vs = (k, v) :: r ∧ Rp K G H t v o1 ∧ RpTf K G H ts r o2 ∧ o = o1 ++ o2
end
mutual
theorem Rp.mono (e : Same G G') : ∀ (t : T) {v : V} {o : List Addr}, (∀ a ∈ o, H' a = H a) → Rp K G H t v o → Rp K G' H' t v o
  | .p d, _, _, _, ⟨h1, h2⟩ => ⟨RpD.mono e d h1, h2⟩
  | .lst ts, _, _, k, ⟨a, vs, o', h1, h2, h3, h4⟩ => ⟨a, vs, o', h1, by rw [k a (by rw [h4]; simp)]; exact h2, RpTs.mono e ts (fun b hb => k b (by rw [h4]; simp [hb])) h3, h4⟩
  | .tup ts, _, _, k, ⟨a, vs, h1, h2, h3⟩ => ⟨a, vs, h1, e a _ h2, RpTs.mono e ts k h3⟩
  | .dic kvs, _, _, k, ⟨a, ws, o', h1, h2, h3, h4⟩ => ⟨a, ws, o', h1, by rw [k a (by rw [h4]; simp)]; exact h2, RpTk.mono e kvs (fun b hb => k b (by rw [h4]; simp [hb])) h3, h4⟩
  | .dit kvs, _, _, k, ⟨a, ws, o', h1, h2, h3, h4⟩ => ⟨a, ws, o', h1, by rw [k a (by rw [h4]; simp)]; exact h2, RpTt.mono e kvs (fun b hb => k b (by rw [h4]; simp [hb])) h3, h4⟩
  | .obj n fs, _, _, k, ⟨a, C, dx, ws, o', h1, h0, h2, h3, h4⟩ => ⟨a, C, dx, ws, o', h1, h0, by rw [k a (by rw [h4]; simp)]; exact h2, RpTf.mono e fs (fun b hb => k b (by rw [h4]; simp [hb])) h3, h4⟩
  | .box a t, _, _, k, ⟨h1, h2⟩ => ⟨h1, Rp.mono e t k h2⟩
  | .al a, _, _, _, h => h
theorem RpTs.mono (e : Same G G') : ∀ (ts : List T) {vs : List V} {o : List Addr}, (∀ a ∈ o, H' a = H a) → RpTs K G H ts vs o → RpTs K G' H' ts vs o
  | [], _, _, _, h => h
  | t :: ts, _, _, k, ⟨v, r, o1, o2, h1, h2, h3, h4⟩ => ⟨v, r, o1, o2, h1, Rp.mono e t (fun b hb => k b (by rw [h4]; simp [hb])) h2, RpTs.mono e ts (fun b hb => k b (by rw [h4]; simp [hb])) h3, h4⟩
theorem RpTk.mono (e : Same G G') : ∀ (ts : List (Key × T)) {vs : List (Key × V)} {o : List Addr}, (∀ a ∈ o, H' a = H a) → RpTk K G H ts vs o → RpTk K G' H' ts vs o
  | [], _, _, _, h => h
  | (_, t) :: ts, _, _, k, ⟨v, r, o1, o2, h1, h2, h3, h4⟩ => ⟨v, r, o1, o2, h1, Rp.mono e t (fun b hb => k b (by rw [h4]; simp [hb])) h2, RpTk.mono e ts (fun b hb => k b (by rw [h4]; simp [hb])) h3, h4⟩
theorem RpTt.mono (e : Same G G') : ∀ (ts : List (List Key × T)) {vs : List (List Key × V)} {o : List Addr}, (∀ a ∈ o, H' a = H a) → RpTt K G H ts vs o → RpTt K G' H' ts vs o
  | [], _, _, _, h => h
  | (_, t) :: ts, _, _, k, ⟨v, r, o1, o2, h1, h2, h3, h4⟩ => ⟨v, r, o1, o2, h1, Rp.mono e t (fun b hb => k b (by rw [h4]; simp [hb])) h2, RpTt.mono e ts (fun b hb => k b (by rw [h4]; simp [hb])) h3, h4⟩
theorem RpTf.mono (e : Same G G') : ∀ (ts : List (Str × T)) {vs : List (Str × V)} {o : List Addr}, (∀ a ∈ o, H' a = H a) → RpTf K G H ts vs o → RpTf K G' H' ts vs o
  | [], _, _, _, h => h
  | (_, t) :: ts, _, _, k, ⟨v, r, o1, o2, h1, h2, h3, h4⟩ => ⟨v, r, o1, o2, h1, Rp.mono e t (fun b hb => k b (by rw [h4]; simp [hb])) h2, RpTf.mono e ts (fun b hb => k b (by rw [h4]; simp [hb])) h3, h4⟩
end
mutual
theorem Rp.flat {o : List Addr} (e : Same G G') (k : ∀ a ∈ o, G' a = H a) : ∀ (t : T) {v : V}, Rp K G H t v o → RpD K G' t.toD v
  | .p d, _, ⟨h1, h2⟩ => RpD.mono e d h1
  | .lst ts, _, ⟨a, vs, o', h1, h2, h3, h4⟩ => ⟨a, vs, h1, .inl (by rw [k a (by rw [h4]; simp)]; exact h2), RpTs.flat e (fun b hb => k b (by rw [h4]; simp [hb])) ts h3⟩
  | .tup ts, _, ⟨a, vs, h1, h2, h3⟩ => ⟨a, vs, h1, e a _ h2, RpTs.flat e k ts h3⟩
  | .dic kvs, _, ⟨a, ws, o', h1, h2, h3, h4⟩ => ⟨a, ws, h1, .inl (by rw [k a (by rw [h4]; simp)]; exact h2), RpTk.flat e (fun b hb => k b (by rw [h4]; simp [hb])) kvs h3⟩
  | .dit kvs, _, ⟨a, ws, o', h1, h2, h3, h4⟩ => ⟨a, ws, h1, .inl (by rw [k a (by rw [h4]; simp)]; exact h2), RpTt.flat e (fun b hb => k b (by rw [h4]; simp [hb])) kvs h3⟩
  | .obj n fs, _, ⟨a, C, dx, ws, o', h1, h0, h2, h3, h4⟩ => ⟨a, C, dx, ws, h1, h0, (by rw [k a (by rw [h4]; simp)]; exact h2), RpTf.flat e (fun b hb => k b (by rw [h4]; simp [hb])) fs h3⟩
  | .box a t, _, ⟨h1, h2⟩ => Rp.flat e k t h2
  | .al a, _, ⟨h1, h2⟩ => h1
theorem RpTs.flat {o : List Addr} (e : Same G G') (k : ∀ a ∈ o, G' a = H a) : ∀ (ts : List T) {vs : List V}, RpTs K G H ts vs o → RpDs K G' (T.toDs ts) vs
  | [], _, ⟨h, _⟩ => h
  | t :: ts, _, ⟨v, r, o1, o2, h1, h2, h3, h4⟩ => ⟨v, r, h1, Rp.flat e (fun b hb => k b (by rw [h4]; simp [hb])) t h2, RpTs.flat e (fun b hb => k b (by rw [h4]; simp [hb])) ts h3⟩
theorem RpTk.flat {o : List Addr} (e : Same G G') (k : ∀ a ∈ o, G' a = H a) : ∀ (ts : List (Key × T)) {vs : List (Key × V)}, RpTk K G H ts vs o → RpKs K G' (T.toKs ts) vs
  | [], _, ⟨h, _⟩ => h
  | (_, t) :: ts, _, ⟨v, r, o1, o2, h1, h2, h3, h4⟩ => ⟨v, r, h1, Rp.flat e (fun b hb => k b (by rw [h4]; simp [hb])) t h2, RpTk.flat e (fun b hb => k b (by rw [h4]; simp [hb])) ts h3⟩
theorem RpTt.flat {o : List Addr} (e : Same G G') (k : ∀ a ∈ o, G' a = H a) : ∀ (ts : List (List Key × T)) {vs : List (List Key × V)}, RpTt K G H ts vs o → RpKt K G' (T.toKt ts) vs
  | [], _, ⟨h, _⟩ => h
  | (_, t) :: ts, _, ⟨v, r, o1, o2, h1, h2, h3, h4⟩ => ⟨v, r, h1, Rp.flat e (fun b hb => k b (by rw [h4]; simp [hb])) t h2, RpTt.flat e (fun b hb => k b (by rw [h4]; simp [hb])) ts h3⟩
theorem RpTf.flat {o : List Addr} (e : Same G G') (k : ∀ a ∈ o, G' a = H a) : ∀ (ts : List (Str × T)) {vs : List (Str × V)}, RpTf K G H ts vs o → RpKf K G' (T.toKf ts) vs
  | [], _, ⟨h, _⟩ => h
  | (_, t) :: ts, _, ⟨v, r, o1, o2, h1, h2, h3, h4⟩ => ⟨v, r, h1, Rp.flat e (fun b hb => k b (by rw [h4]; simp [hb])) t h2, RpTf.flat e (fun b hb => k b (by rw [h4]; simp [hb])) ts h3⟩
end
mutual
theorem Rp.there : ∀ (t : T) {v : V} {o : List Addr}, Rp K G H t v o → ∀ a ∈ o, ∃ u, H a = some u ∧ ∀ xs, u ≠ .tup xs
  | .p d, _, _, ⟨h1, h2⟩, b, hb => by rw [h2] at hb; cases hb
  | .lst ts, _, _, ⟨a, vs, o', h1, h2, h3, h4⟩, b, hb => by
    rw [h4] at hb
    rcases List.mem_cons.mp hb with e | hb
    · rw [e]; exact ⟨_, h2, fun xs z => by cases z⟩
    · exact RpTs.there ts h3 b hb
  | .tup ts, _, _, ⟨a, vs, h1, h2, h3⟩, b, hb => RpTs.there ts h3 b hb
  | .dic kvs, _, _, ⟨a, ws, o', h1, h2, h3, h4⟩, b, hb => by
    rw [h4] at hb
    rcases List.mem_cons.mp hb with e | hb
    · rw [e]; exact ⟨_, h2, fun xs z => by cases z⟩
    · exact RpTk.there kvs h3 b hb
  | .dit kvs, _, _, ⟨a, ws, o', h1, h2, h3, h4⟩, b, hb => by
    rw [h4] at hb
    rcases List.mem_cons.mp hb with e | hb
    · rw [e]; exact ⟨_, h2, fun xs z => by cases z⟩
    · exact RpTt.there kvs h3 b hb
  | .obj n kvs, _, _, ⟨a, C, dx, ws, o', h1, h0, h2, h3, h4⟩, b, hb => by
    rw [h4] at hb
    rcases List.mem_cons.mp hb with e | hb
    · rw [e]; exact ⟨_, h2, fun xs z => by cases z⟩
    · exact RpTf.there kvs h3 b hb
  | .box a t, _, _, ⟨h1, h2⟩, b, hb => Rp.there t h2 b hb
  | .al a, _, _, ⟨h1, h2⟩, b, hb => by rw [h2] at hb; cases hb
theorem RpTs.there : ∀ (ts : List T) {vs : List V} {o : List Addr}, RpTs K G H ts vs o → ∀ a ∈ o, ∃ u, H a = some u ∧ ∀ xs, u ≠ .tup xs
  | [], _, _, ⟨_, h⟩, b, hb => by rw [h] at hb; cases hb
  | t :: ts, _, _, ⟨v, r, o1, o2, h1, h2, h3, h4⟩, b, hb => by
    rw [h4] at hb
    rcases List.mem_append.mp hb with hb | hb
    · exact Rp.there t h2 b hb
    · exact RpTs.there ts h3 b hb
theorem RpTk.there : ∀ (ts : List (Key × T)) {vs : List (Key × V)} {o : List Addr}, RpTk K G H ts vs o → ∀ a ∈ o, ∃ u, H a = some u ∧ ∀ xs, u ≠ .tup xs
  | [], _, _, ⟨_, h⟩, b, hb => by rw [h] at hb; cases hb
  | (_, t) :: ts, _, _, ⟨v, r, o1, o2, h1, h2, h3, h4⟩, b, hb => by
    rw [h4] at hb
    rcases List.mem_append.mp hb with hb | hb
    · exact Rp.there t h2 b hb
    · exact RpTk.there ts h3 b hb
theorem RpTt.there : ∀ (ts : List (List Key × T)) {vs : List (List Key × V)} {o : List Addr}, RpTt K G H ts vs o → ∀ a ∈ o, ∃ u, H a = some u ∧ ∀ xs, u ≠ .tup xs
  | [], _, _, ⟨_, h⟩, b, hb => by rw [h] at hb; cases hb
  | (_, t) :: ts, _, _, ⟨v, r, o1, o2, h1, h2, h3, h4⟩, b, hb => by
    rw [h4] at hb
    rcases List.mem_append.mp hb with hb | hb
    · exact Rp.there t h2 b hb
    · exact RpTt.there ts h3 b hb
theorem RpTf.there : ∀ (ts : List (Str × T)) {vs : List (Str × V)} {o : List Addr}, RpTf K G H ts vs o → ∀ a ∈ o, ∃ u, H a = some u ∧ ∀ xs, u ≠ .tup xs
  | [], _, _, ⟨_, h⟩, b, hb => by rw [h] at hb; cases hb
  | (_, t) :: ts, _, _, ⟨v, r, o1, o2, h1, h2, h3, h4⟩, b, hb => by
    rw [h4] at hb
    rcases List.mem_append.mp hb with hb | hb
    · exact Rp.there t h2 b hb
    · exact RpTf.there ts h3 b hb
end
theorem RpTs.len : ∀ {ts : List T} {vs : List V} {o : List Addr}, RpTs K G H ts vs o → vs.length = ts.length
  | [], _, _, ⟨h, _⟩ => by rw [h]; rfl
  | t :: ts, _, _, ⟨v, r, o1, o2, h1, h2, h3, h4⟩ => by rw [h1, List.length_cons, List.length_cons, RpTs.len h3]
theorem RpTs.append : ∀ {ts us : List T} {vs ws : List V} {o o' : List Addr}, RpTs K G H ts vs o → RpTs K G H us ws o' → RpTs K G H (ts ++ us) (vs ++ ws) (o ++ o')
  | [], _, _, _, _, _, ⟨h, h2⟩, h' => by rw [h, h2]; exact h'
  | t :: ts, _, _, _, _, _, ⟨v, r, o1, o2, h1, h2, h3, h4⟩, h' => by
    subst h1; subst h4
    exact ⟨v, r ++ _, o1, o2 ++ _, rfl, h2, RpTs.append h3 h', by simp⟩
theorem rpTs_p : ∀ {ds : List D} {vs : List V}, RpDs K G ds vs → RpTs K G H (ds.map T.p) vs []
  | [], _, h => ⟨h, rfl⟩
  | d :: ds, _, ⟨v, r, h1, h2, h3⟩ => ⟨v, r, [], [], h1, ⟨h2, rfl⟩, rpTs_p h3, rfl⟩

/-- the names' values -/
abbrev Env := List (Option T)
def RpE (K : PySem.W.Frag) (G H : Hp) : Env → St → List Addr → Prop
  | [], σ, o => σ = [] ∧ o = []
  | none :: es, σ, o => ∃ x r, σ = x :: r ∧ RpE K G H es r o
  | some t :: es, σ, o => ∃ v r o1 o2, σ = some v :: r ∧ Rp K G H t v o1 ∧ RpE K G H es r o2 ∧ o = o1 ++ o2
theorem RpE.mono (e : Same G G') : ∀ (es : Env) {σ : St} {o : List Addr}, (∀ a ∈ o, H' a = H a) → RpE K G H es σ o → RpE K G' H' es σ o
  | [], _, _, _, h => h
  | none :: es, _, _, k, ⟨x, r, h1, h2⟩ => ⟨x, r, h1, RpE.mono e es k h2⟩
  | some t :: es, _, _, k, ⟨v, r, o1, o2, h1, h2, h3, h4⟩ => ⟨v, r, o1, o2, h1, Rp.mono e t (fun b hb => k b (by rw [h4]; simp [hb])) h2, RpE.mono e es (fun b hb => k b (by rw [h4]; simp [hb])) h3, h4⟩
theorem RpE.there : ∀ (es : Env) {σ : St} {o : List Addr}, RpE K G H es σ o → ∀ a ∈ o, ∃ u, H a = some u ∧ ∀ xs, u ≠ .tup xs
  | [], _, _, ⟨_, h⟩, b, hb => by rw [h] at hb; cases hb
  | none :: es, _, _, ⟨x, r, h1, h2⟩, b, hb => RpE.there es h2 b hb
  | some t :: es, _, _, ⟨v, r, o1, o2, h1, h2, h3, h4⟩, b, hb => by
    rw [h4] at hb
    rcases List.mem_append.mp hb with hb | hb
    · exact Rp.there t h2 b hb
    · exact RpE.there es h3 b hb
theorem RpE.len : ∀ {es : Env} {σ : St} {o : List Addr}, RpE K G H es σ o → σ.length = es.length
  | [], _, _, ⟨h, _⟩ => by rw [h]; rfl
  | none :: es, _, _, ⟨x, r, h1, h2⟩ => by rw [h1, List.length_cons, List.length_cons, RpE.len h2]
  | some t :: es, _, _, ⟨v, r, o1, o2, h1, h2, h3, h4⟩ => by rw [h1, List.length_cons, List.length_cons, RpE.len h3]
theorem perm_mid {α : Type} (a b c : List α) : (a ++ (b ++ c)).Perm (b ++ (a ++ c)) := by
  rw [← List.append_assoc, ← List.append_assoc]
  exact List.Perm.append_right _ List.perm_append_comm
/-- one name taken out -/
theorem RpE.take : ∀ {es : Env} {σ : St} {o : List Addr} {i : Nat} {t : T}, RpE K G H es σ o → es[i]? = some (some t) →
    ∃ v o1 o2, σ[i]? = some (some v) ∧ Rp K G H t v o1 ∧ RpE K G H (es.set i none) σ o2 ∧ o.Perm (o1 ++ o2)
  | [], _, _, _, _, _, e => by simp at e
  | none :: es, _, _, 0, _, _, e => by simp at e
  | none :: es, _, _, i + 1, t, ⟨x, r, h1, h2⟩, e => by
    subst h1
    obtain ⟨v, o1, o2, g1, g2, g3, g4⟩ := RpE.take (i := i) h2 (by simpa using e)
    exact ⟨v, o1, o2, by simpa using g1, g2, ⟨x, r, rfl, g3⟩, g4⟩
  | some u :: es, _, _, 0, t, ⟨v, r, o1, o2, h1, h2, h3, h4⟩, e => by
    subst h1
    simp at e; subst e
    exact ⟨v, o1, o2, rfl, h2, ⟨_, _, rfl, h3⟩, by rw [h4]⟩
  | some u :: es, _, _, i + 1, t, ⟨v, r, o1, o2, h1, h2, h3, h4⟩, e => by
    subst h1
    obtain ⟨w, p1, p2, g1, g2, g3, g4⟩ := RpE.take (i := i) h3 (by simpa using e)
    refine ⟨w, p1, o1 ++ p2, by simpa using g1, g2, ⟨v, r, o1, p2, rfl, h2, g3, rfl⟩, ?_⟩
    rw [h4]
    exact (List.Perm.append_left o1 g4).trans (perm_mid _ _ _)
/-- .. put in -/
theorem RpE.put : ∀ {es : Env} {σ : St} {o : List Addr} {i : Nat} {t : T} {v : V} {o1 : List Addr}, RpE K G H es σ o → i < es.length → (∀ u, es[i]? ≠ some (some u)) → Rp K G H t v o1 →
    ∃ o2, RpE K G H (es.set i (some t)) (σ.set i (some v)) o2 ∧ o2.Perm (o1 ++ o)
  | [], _, _, _, _, _, _, _, hl, _, _ => by simp at hl
  | none :: es, _, o, 0, t, v, o1, ⟨x, r, h1, h2⟩, _, _, h => by
    subst h1
    exact ⟨o1 ++ o, ⟨v, r, o1, o, rfl, h, h2, rfl⟩, .refl _⟩
  | none :: es, _, o, i + 1, t, v, o1, ⟨x, r, h1, h2⟩, hl, hn, h => by
    subst h1
    obtain ⟨o2, g1, g2⟩ := RpE.put (i := i) h2 (by simpa using hl) (fun u z => hn u (by simpa using z)) h
    exact ⟨o2, ⟨x, _, rfl, g1⟩, g2⟩
  | some u :: es, _, _, 0, t, v, o1, _, _, hn, _ => absurd rfl (hn u)
  | some u :: es, _, _, i + 1, t, v, o1, ⟨w, r, p1, p2, h1, h2, h3, h4⟩, hl, hn, h => by
    subst h1
    obtain ⟨o2, g1, g2⟩ := RpE.put (i := i) h3 (by simpa using hl) (fun u z => hn u (by simpa using z)) h
    refine ⟨p1 ++ o2, ⟨w, _, p1, o2, rfl, h2, g1, rfl⟩, ?_⟩
    rw [h4]
    exact (List.Perm.append_left p1 g2).trans (perm_mid _ _ _)
/-- .. forgotten -/
theorem RpE.drop {es : Env} {σ : St} {o : List Addr} (i : Nat) (h : RpE K G H es σ o) : ∃ o1 o2, RpE K G H (es.set i none) σ o2 ∧ o.Perm (o1 ++ o2) := by
  by_cases hi : ∃ t, es[i]? = some (some t)
  · obtain ⟨t, ht⟩ := hi
    obtain ⟨v, o1, o2, g1, g2, g3, g4⟩ := h.take ht
    exact ⟨o1, o2, g3, g4⟩
  · refine ⟨[], o, ?_, .refl _⟩
    by_cases hl : i < es.length
    · have e : es[i]? = some none := by
        cases q : es[i]? with
        | none => rw [List.getElem?_eq_none_iff] at q; omega
        | some x =>
          cases x with
          | none => rfl
          | some t => exact absurd ⟨t, q⟩ hi
      have : es.set i none = es := by
        obtain ⟨h1, e2⟩ := List.getElem?_eq_some_iff.mp e
        rw [← e2]
        exact List.set_getElem_self h1
      rw [this]; exact h
    · rw [List.set_eq_of_length_le (by omega)]; exact h
/-- any slot's value may be another where nothing is known of it -/
theorem RpE.slot : ∀ {es : Env} {σ : St} {o : List Addr} {i : Nat} (x : Option V), RpE K G H es σ o → (∀ u, es[i]? ≠ some (some u)) → RpE K G H es (σ.set i x) o
  | [], _, _, _, _, ⟨h, h2⟩, _ => by rw [h]; exact ⟨by simp, h2⟩
  | none :: es, _, o, 0, x, ⟨y, r, h1, h2⟩, _ => by subst h1; exact ⟨x, r, rfl, h2⟩
  | none :: es, _, o, i + 1, x, ⟨y, r, h1, h2⟩, hn => by
    subst h1
    exact ⟨y, _, rfl, RpE.slot x h2 fun u z => hn u (by simpa using z)⟩
  | some u :: es, _, _, 0, x, _, hn => absurd rfl (hn u)
  | some u :: es, _, _, i + 1, x, ⟨w, r, p1, p2, h1, h2, h3, h4⟩, hn => by
    subst h1
    exact ⟨w, _, p1, p2, rfl, h2, RpE.slot x h3 (fun u z => hn u (by simpa using z)), h4⟩
end
end DL

set_option Elab.async false
set_option linter.all false
set_option maxRecDepth 100000
namespace DL
open PySem PySem.Spec PyProof.Rows L2

structure St0 (K : PySem.W.Frag) (G0 H0 : Hp) (W : List (T × V)) (G H : Hp) (ts : List T) (vs : List V) (env : Env) (σ : St) (ot oe : List Addr) : Prop where
  tmp : RpTs K G H ts vs ot
  env : RpE K G H env σ oe
  nd : (ot ++ oe).Nodup
  fr : ∀ a ∈ ot ++ oe, G a = none ∧ H0 a = none
  g0 : Same G0 G
  gh : Same G H
  h0 : Same H0 H
  nw : ∀ a o, G a = some o → G0 a ≠ none ∨ H0 a = none ∨ ∃ xs, o = .tup xs
  vw : ∀ q ∈ W, ∃ o, Rp K G H q.1 q.2 o
def OkS (K : PySem.W.Frag) (G0 H0 : Hp) (W : List (T × V)) (H : Hp) (ts : List T) (vs : List V) (env : Env) (σ : St) : Prop :=
  ∃ G ot oe, St0 K G0 H0 W G H ts vs env σ ot oe

section
variable {K : PySem.W.Frag} {G0 H0 H : Hp} {W : List (T × V)} {ts : List T} {vs : List V} {env : Env} {σ : St} {t : T} {v : V}

theorem OkS.scal {z : D} {u : V} (S : OkS K G0 H0 W H ts vs env σ) (h : ∀ G, RpD K G z u) : OkS K G0 H0 W H (.p z :: ts) (u :: vs) env σ := by
  obtain ⟨G, ot, oe, s⟩ := S
  exact ⟨G, ot, oe, ⟨u, vs, [], ot, rfl, ⟨h G, rfl⟩, s.tmp, rfl⟩, s.env, s.nd, s.fr, s.g0, s.gh, s.h0, s.nw, s.vw⟩
theorem OkS.pop (S : OkS K G0 H0 W H (t :: ts) (v :: vs) env σ) : OkS K G0 H0 W H ts vs env σ := by
  obtain ⟨G, ot, oe, s⟩ := S
  obtain ⟨u, r, o1, o2, h1, h2, h3, h4⟩ := s.tmp
  cases h1
  subst h4
  have nd := s.nd
  rw [List.append_assoc] at nd
  exact ⟨G, o2, oe, h3, s.env, (List.nodup_append.mp nd).2.1, fun a ha => s.fr a (by rw [List.append_assoc]; exact List.mem_append_right _ ha), s.g0, s.gh, s.h0, s.nw, s.vw⟩
theorem OkS.unview {q : T × V} (S : OkS K G0 H0 (q :: W) H ts vs env σ) : OkS K G0 H0 W H ts vs env σ := by
  obtain ⟨G, ot, oe, s⟩ := S
  exact ⟨G, ot, oe, s.tmp, s.env, s.nd, s.fr, s.g0, s.gh, s.h0, s.nw, fun q hq => s.vw q (List.mem_cons_of_mem _ hq)⟩
theorem OkS.noview (S : OkS K G0 H0 W H ts vs env σ) : OkS K G0 H0 [] H ts vs env σ := by
  obtain ⟨G, ot, oe, s⟩ := S
  exact ⟨G, ot, oe, s.tmp, s.env, s.nd, s.fr, s.g0, s.gh, s.h0, s.nw, fun q hq => by cases hq⟩
/-- the value on top, looked at -/
theorem OkS.toview (S : OkS K G0 H0 W H (t :: ts) (v :: vs) env σ) : OkS K G0 H0 ((t, v) :: W) H ts vs env σ := by
  have S' := S.pop
  obtain ⟨G, ot, oe, s⟩ := S
  obtain ⟨u, r, o1, o2, h1, h2, h3, h4⟩ := s.tmp
  cases h1
  subst h4
  have nd := s.nd
  rw [List.append_assoc] at nd
  exact ⟨G, o2, oe, h3, s.env, (List.nodup_append.mp nd).2.1, fun a ha => s.fr a (by rw [List.append_assoc]; exact List.mem_append_right _ ha), s.g0, s.gh, s.h0, s.nw, fun q hq => by
    rcases List.mem_cons.mp hq with e | hq
    · subst e; exact ⟨o1, h2⟩
    · exact s.vw q hq⟩
/-- a looked-at value that is pure, as a value -/
theorem OkS.ofview {d : D} (S : OkS K G0 H0 ((.p d, v) :: W) H ts vs env σ) : OkS K G0 H0 W H (.p d :: ts) (v :: vs) env σ := by
  obtain ⟨G, ot, oe, s⟩ := S
  obtain ⟨o, h, ho⟩ := s.vw (.p d, v) (by simp)
  exact ⟨G, ot, oe, ⟨v, vs, [], ot, rfl, ⟨h, rfl⟩, s.tmp, rfl⟩, s.env, s.nd, s.fr, s.g0, s.gh, s.h0, s.nw, fun q hq => s.vw q (List.mem_cons_of_mem _ hq)⟩
/-- a view as data -/
theorem OkS.see (S : OkS K G0 H0 W H ts vs env σ) {q : T × V} (hq : q ∈ W) : RpD K H q.1.toD q.2 := by
  obtain ⟨G, ot, oe, s⟩ := S
  obtain ⟨o, h⟩ := s.vw q hq
  exact h.flat s.gh (fun a _ => rfl) _
theorem OkS.top (S : OkS K G0 H0 W H (t :: ts) (v :: vs) env σ) : RpD K H t.toD v := S.toview.see (by simp : (t, v) ∈ _)
theorem OkS.get {i : Nat} (S : OkS K G0 H0 W H ts vs env σ) (e : env[i]? = some (some t)) : ∃ v, σ[i]? = some (some v) ∧ OkS K G0 H0 W H (t :: ts) (v :: vs) (env.set i none) σ := by
  obtain ⟨G, ot, oe, s⟩ := S
  obtain ⟨v, o1, o2, h1, h2, h3, h4⟩ := s.env.take e
  have pm : (ot ++ oe).Perm ((o1 ++ ot) ++ o2) := by
    rw [List.append_assoc]
    exact (List.Perm.append_left ot h4).trans (perm_mid _ _ _)
  exact ⟨v, h1, G, o1 ++ ot, o2, ⟨v, vs, o1, ot, rfl, h2, s.tmp, rfl⟩, h3, pm.nodup_iff.mp s.nd, fun a ha => s.fr a (pm.mem_iff.mpr ha), s.g0, s.gh, s.h0, s.nw, s.vw⟩
theorem OkS.look {i : Nat} (S : OkS K G0 H0 W H ts vs env σ) (e : env[i]? = some (some t)) : ∃ v, σ[i]? = some (some v) ∧ OkS K G0 H0 ((t, v) :: W) H ts vs env σ := by
  obtain ⟨G, ot, oe, s⟩ := S
  obtain ⟨v, o1, o2, h1, h2, h3, h4⟩ := s.env.take e
  exact ⟨v, h1, G, ot, oe, s.tmp, s.env, s.nd, s.fr, s.g0, s.gh, s.h0, s.nw, fun q hq => by
    rcases List.mem_cons.mp hq with e | hq
    · subst e; exact ⟨o1, h2⟩
    · exact s.vw q hq⟩
theorem OkS.put {i : Nat} (S : OkS K G0 H0 W H (t :: ts) (v :: vs) env σ) (hl : i < env.length) : OkS K G0 H0 W H ts vs (env.set i (some t)) (σ.set i (some v)) := by
  obtain ⟨G, ot, oe, s⟩ := S
  obtain ⟨u, r, o1, o2, h1, h2, h3, h4⟩ := s.tmp
  cases h1
  subst h4
  obtain ⟨p1, p2, g1, g2⟩ := s.env.drop i
  have hn : ∀ u, (env.set i none)[i]? ≠ some (some u) := fun u z => by
    rw [List.getElem?_set_self hl] at z; cases z
  obtain ⟨p3, g3, g4⟩ := g1.put (i := i) (t := t) (v := v) (by simpa using hl) hn h2
  have g5 : (env.set i none).set i (some t) = env.set i (some t) := by simp
  rw [g5] at g3
  have pm : (o1 ++ o2 ++ oe).Perm (p1 ++ (o2 ++ p3)) := by
    have e1 : (o1 ++ o2 ++ oe).Perm (o1 ++ o2 ++ (p1 ++ p2)) := List.Perm.append_left _ g2
    have e2 : (p1 ++ (o2 ++ p3)).Perm (p1 ++ (o2 ++ (o1 ++ p2))) := List.Perm.append_left _ (List.Perm.append_left _ g4)
    refine e1.trans (List.Perm.trans ?_ e2.symm)
    have e3 : (o1 ++ o2 ++ (p1 ++ p2)).Perm (p1 ++ ((o1 ++ o2) ++ p2)) := perm_mid _ _ _
    refine e3.trans (List.Perm.append_left _ ?_)
    rw [List.append_assoc]
    exact perm_mid _ _ _
  have nd2 := pm.nodup_iff.mp s.nd
  exact ⟨G, o2, p3, h3, g3, (List.nodup_append.mp nd2).2.1, fun a ha => s.fr a (pm.mem_iff.mpr (List.mem_append_right _ ha)), s.g0, s.gh, s.h0, s.nw, s.vw⟩
/-- from now on it is not changed -/
theorem OkS.frz (S : OkS K G0 H0 W H (t :: ts) (v :: vs) env σ) : OkS K G0 H0 W H (.p t.toD :: ts) (v :: vs) env σ := by
  obtain ⟨G, ot, oe, s⟩ := S
  obtain ⟨u, r, o1, o2, h1, h2, h3, h4⟩ := s.tmp
  cases h1
  subst h4
  have nd := s.nd
  rw [List.append_assoc] at nd
  have gn : ∀ a ∈ o1, G a = none := fun a ha => (s.fr a (List.mem_append_left _ (List.mem_append_left _ ha))).1
  have sm : Same G (fun a => if a ∈ o1 then H a else G a) := fun b u e => by
    show (if b ∈ o1 then H b else G b) = _
    by_cases hb : b ∈ o1
    · rw [gn b hb] at e; cases e
    · rw [if_neg hb]; exact e
  refine ⟨fun a => if a ∈ o1 then H a else G a, o2, oe, ⟨v, vs, [], o2, rfl, ⟨h2.flat sm (fun a ha => if_pos ha) _, rfl⟩, h3.mono sm _ (fun _ _ => rfl), rfl⟩, s.env.mono sm _ (fun _ _ => rfl), (List.nodup_append.mp nd).2.1, fun a ha => ?_, ?_, fun b u e => ?_, s.h0, fun b u e => ?_, fun q hq => ?_⟩
  · have hx := s.fr a (by rw [List.append_assoc]; exact List.mem_append_right _ ha)
    refine ⟨?_, hx.2⟩
    show (if a ∈ o1 then H a else G a) = none
    have : a ∉ o1 := fun z => (List.nodup_append.mp nd).2.2 a z a ha rfl
    rw [if_neg this]; exact hx.1
  · intro b u e; exact sm b u (s.g0 b u e)
  · have e' : (if b ∈ o1 then H b else G b) = some u := e
    by_cases hb : b ∈ o1
    · rw [if_pos hb] at e'; exact e'
    · rw [if_neg hb] at e'; exact s.gh b u e'
  · have e' : (if b ∈ o1 then H b else G b) = some u := e
    by_cases hb : b ∈ o1
    · exact .inr (.inl (s.fr b (List.mem_append_left _ (List.mem_append_left _ hb))).2)
    · rw [if_neg hb] at e'; exact s.nw b u e'
  · obtain ⟨o, h⟩ := s.vw q hq
    exact ⟨o, h.mono sm _ fun _ _ => rfl⟩
/-- the order of what is held -/
theorem RpTs.mid {G : Hp} : ∀ {us : List T} {ws : List V} {x : T} {y : V} {o : List Addr}, ws.length = us.length → RpTs K G H (us ++ x :: ts) (ws ++ y :: vs) o → ∃ o', RpTs K G H (x :: (us ++ ts)) (y :: (ws ++ vs)) o' ∧ o.Perm o'
  | [], ws, x, y, o, hl, h => by
    cases ws with
    | nil => exact ⟨o, h, .refl _⟩
    | cons _ _ => simp at hl
  | u :: us, ws, x, y, o, hl, h => by
    cases ws with
    | nil => simp at hl
    | cons w ws =>
      obtain ⟨v, r, o1, o2, h1, h2, h3, h4⟩ := h
      cases h1
      obtain ⟨o', ⟨v', r', p1, p2, g1, g2, g3, g4⟩, pm⟩ := RpTs.mid (us := us) (ws := ws) (by simpa using hl) h3
      cases g1
      refine ⟨p1 ++ (o1 ++ p2), ⟨y, _, p1, o1 ++ p2, rfl, g2, ⟨w, _, o1, p2, rfl, h2, g3, rfl⟩, rfl⟩, ?_⟩
      rw [h4]
      refine (List.Perm.append_left o1 pm).trans ?_
      rw [g4]
      exact perm_mid _ _ _
theorem OkS.mid {us : List T} {ws : List V} {x : T} {y : V} (hl : ws.length = us.length) (S : OkS K G0 H0 W H (us ++ x :: ts) (ws ++ y :: vs) env σ) : OkS K G0 H0 W H (x :: us ++ ts) (y :: ws ++ vs) env σ := by
  obtain ⟨G, ot, oe, s⟩ := S
  obtain ⟨o', h, pm⟩ := s.tmp.mid hl
  have pm2 : (ot ++ oe).Perm (o' ++ oe) := List.Perm.append_right _ pm
  exact ⟨G, o', oe, h, s.env, pm2.nodup_iff.mp s.nd, fun a ha => s.fr a (pm2.mem_iff.mpr ha), s.g0, s.gh, s.h0, s.nw, s.vw⟩
theorem RpTs.split {G : Hp} : ∀ {us : List T} {ws : List V} {o : List Addr}, ws.length = us.length → RpTs K G H (us ++ ts) (ws ++ vs) o → ∃ o1 o2, RpTs K G H us ws o1 ∧ RpTs K G H ts vs o2 ∧ o = o1 ++ o2
  | [], ws, o, hl, h => by
    cases ws with
    | nil => exact ⟨[], o, ⟨rfl, rfl⟩, h, rfl⟩
    | cons _ _ => simp at hl
  | u :: us, ws, o, hl, h => by
    cases ws with
    | nil => simp at hl
    | cons w ws =>
      obtain ⟨v, r, o1, o2, h1, h2, h3, h4⟩ := h
      cases h1
      obtain ⟨p1, p2, g1, g2, g3⟩ := RpTs.split (us := us) (ws := ws) (by simpa using hl) h3
      exact ⟨o1 ++ p1, p2, ⟨w, ws, o1, p1, rfl, h2, g1, rfl⟩, g2, by rw [h4, g3, List.append_assoc]⟩
theorem same_upd {H : Hp} {p : Addr} {o : HO} (h : H p = none) : Same H (upd H p o) := fun b x e => by
  rw [upd_ne (ne_of_none e h)]
  exact e
theorem Same.none {H H' : Hp} {p : Addr} (s : Same H H') (h : H' p = none) : H p = none := by
  cases q : H p with
  | none => rfl
  | some u => rw [s p u q] at h; cases h
/-- a new list -/
theorem OkS.newL {us : List T} {ws : List V} {p : Addr} (hl : ws.length = us.length) (S : OkS K G0 H0 W H (us ++ ts) (ws ++ vs) env σ) (hp : H p = none) : OkS K G0 H0 W (upd H p (.lst ws)) (.lst us :: ts) (.ref p :: vs) env σ := by
  obtain ⟨G, ot, oe, s⟩ := S
  obtain ⟨o1, o2, h1, h2, h3⟩ := s.tmp.split hl
  have gp : G p = none := Same.none s.gh hp
  have ne : ∀ a u, H a = some u → a ≠ p := fun a u e z => by rw [z, hp] at e; cases e
  have k1 : ∀ a ∈ o1, upd H p (.lst ws) a = H a := fun a ha => by
    obtain ⟨u, e, _⟩ := h1.there _ a ha
    exact upd_ne (ne a u e)
  have k2 : ∀ a ∈ o2, upd H p (.lst ws) a = H a := fun a ha => by
    obtain ⟨u, e, _⟩ := h2.there _ a ha
    exact upd_ne (ne a u e)
  have k3 : ∀ a ∈ oe, upd H p (.lst ws) a = H a := fun a ha => by
    obtain ⟨u, e, _⟩ := s.env.there _ a ha
    exact upd_ne (ne a u e)
  have all : ∀ a ∈ ot ++ oe, ∃ u, H a = some u := fun a ha => by
    rcases List.mem_append.mp ha with ha | ha
    · obtain ⟨u, e, _⟩ := s.tmp.there _ a ha; exact ⟨u, e⟩
    · obtain ⟨u, e, _⟩ := s.env.there _ a ha; exact ⟨u, e⟩
  refine ⟨G, p :: o1 ++ o2, oe, ⟨.ref p, vs, p :: o1, o2, rfl, ⟨p, ws, o1, rfl, upd_same, h1.mono (Same.refl _) _ k1, rfl⟩, h2.mono (Same.refl _) _ k2, rfl⟩, s.env.mono (Same.refl _) _ k3, ?_, fun a ha => ?_, s.g0, fun b u e => ?_, fun b u e => ?_, s.nw, fun q hq => ?_⟩
  · rw [List.cons_append, List.cons_append, ← h3]
    refine List.nodup_cons.mpr ⟨fun z => ?_, s.nd⟩
    obtain ⟨u, e⟩ := all p z
    rw [hp] at e; cases e
  · rw [List.cons_append, List.cons_append, ← h3] at ha
    rcases List.mem_cons.mp ha with e | ha
    · subst e; exact ⟨gp, Same.none s.h0 hp⟩
    · exact s.fr a ha
  · rw [upd_ne (ne b u (s.gh b u e))]; exact s.gh b u e
  · rw [upd_ne (ne b u (s.h0 b u e))]; exact s.h0 b u e
  · obtain ⟨o, h⟩ := s.vw q hq
    refine ⟨o, h.mono (Same.refl _) _ fun a ha => ?_⟩
    obtain ⟨u, e, _⟩ := h.there _ a ha
    exact upd_ne (ne a u e)
def allP : List T → Option (List D)
  | [] => some []
  | .p d :: r => (allP r).map (d :: ·)
  | _ :: _ => none
theorem allP_eq : ∀ {us : List T} {ds : List D}, allP us = some ds → us = ds.map T.p
  | [], ds, h => by cases h; rfl
  | .p d :: r, ds, h => by
    unfold allP at h
    cases q : allP r with
    | none => rw [q] at h; cases h
    | some es =>
      rw [q] at h
      cases h
      rw [allP_eq q]; rfl
  | .lst _ :: r, ds, h => by simp [allP] at h
  | .tup _ :: r, ds, h => by simp [allP] at h
  | .dic _ :: r, ds, h => by simp [allP] at h
  | .dit _ :: r, ds, h => by simp [allP] at h
  | .obj _ _ :: r, ds, h => by simp [allP] at h
  | .box _ _ :: r, ds, h => by simp [allP] at h
  | .al _ :: r, ds, h => by simp [allP] at h
def mkTup (us : List T) : T := match allP us with | some ds => .p (.tup ds) | none => .tup us
theorem rpDs_of {G : Hp} : ∀ {ds : List D} {vs : List V} {o : List Addr}, RpTs K G H (ds.map T.p) vs o → RpDs K G ds vs ∧ o = []
  | [], _, _, ⟨h, h2⟩ => ⟨h, h2⟩
  | d :: ds, _, _, ⟨v, r, o1, o2, h1, h2, h3, h4⟩ => by
    obtain ⟨g1, g2⟩ := rpDs_of h3
    exact ⟨⟨v, r, h1, h2.1, g1⟩, by rw [h4, h2.2, g2]; rfl⟩
/-- a new tuple -/
theorem OkS.newT {us : List T} {ws : List V} {p : Addr} (hl : ws.length = us.length) (S : OkS K G0 H0 W H (us ++ ts) (ws ++ vs) env σ) (hp : H p = none) : OkS K G0 H0 W (upd H p (.tup ws)) (mkTup us :: ts) (.ref p :: vs) env σ := by
  obtain ⟨G, ot, oe, s⟩ := S
  obtain ⟨o1, o2, h1, h2, h3⟩ := s.tmp.split hl
  have gp : G p = none := Same.none s.gh hp
  have ne : ∀ a u, H a = some u → a ≠ p := fun a u e z => by rw [z, hp] at e; cases e
  have all : ∀ a ∈ ot ++ oe, ∃ u, H a = some u := fun a ha => by
    rcases List.mem_append.mp ha with ha | ha
    · obtain ⟨u, e, _⟩ := s.tmp.there _ a ha; exact ⟨u, e⟩
    · obtain ⟨u, e, _⟩ := s.env.there _ a ha; exact ⟨u, e⟩
  have sg : Same G (upd G p (.tup ws)) := same_upd gp
  have k0 : ∀ a ∈ ot ++ oe, upd H p (.tup ws) a = H a := fun a ha => by
    obtain ⟨u, e⟩ := all a ha
    exact upd_ne (ne a u e)
  subst h3
  have k1 : ∀ a ∈ o1, upd H p (.tup ws) a = H a := fun a ha => k0 a (by simp [ha])
  have k2 : ∀ a ∈ o2, upd H p (.tup ws) a = H a := fun a ha => k0 a (by simp [ha])
  have k3 : ∀ a ∈ oe, upd H p (.tup ws) a = H a := fun a ha => k0 a (by simp [ha])
  have tp : Rp K (upd G p (.tup ws)) (upd H p (.tup ws)) (mkTup us) (.ref p) o1 := by
    unfold mkTup
    cases q : allP us with
    | none => exact ⟨p, ws, rfl, upd_same, h1.mono sg _ k1⟩
    | some ds =>
      have e := allP_eq q
      subst e
      obtain ⟨g1, g2⟩ := rpDs_of h1
      exact ⟨⟨p, ws, rfl, upd_same, RpDs.mono sg _ g1⟩, g2⟩
  refine ⟨upd G p (.tup ws), o1 ++ o2, oe, ⟨.ref p, vs, o1, o2, rfl, tp, h2.mono sg _ k2, rfl⟩, s.env.mono sg _ k3, s.nd, fun a ha => ?_, fun b u e => sg b u (s.g0 b u e), fun b u e => ?_, fun b u e => ?_, fun b u e => ?_, fun q hq => ?_⟩
  · obtain ⟨u, e⟩ := all a ha
    rw [upd_ne (ne a u e)]
    exact s.fr a ha
  · by_cases hb : b = p
    · subst hb; rw [upd_same] at e ⊢; exact e
    · rw [upd_ne hb] at e ⊢; exact s.gh b u e
  · rw [upd_ne (ne b u (s.h0 b u e))]; exact s.h0 b u e
  · by_cases hb : b = p
    · exact .inr (.inl (by rw [hb]; exact Same.none s.h0 hp))
    · rw [upd_ne hb] at e; exact s.nw b u e
  · obtain ⟨o, h⟩ := s.vw q hq
    refine ⟨o, h.mono sg _ fun a ha => ?_⟩
    obtain ⟨u, e, _⟩ := h.there _ a ha
    exact upd_ne (ne a u e)
end
end DL

set_option Elab.async false
set_option linter.all false
set_option maxRecDepth 100000
namespace DL
open PySem PySem.Spec PyProof.Rows L2

abbrev EF := Env → Option (T × Env)
abbrev AF := Env → Option (List T × Env)
abbrev CF := Env → Option (Bool × Env)
def EvT (K : PySem.W.Frag) (te : TE) (f : EF) : Prop := ∀ (G0 H0 : Hp) (W : List (T × V)) (H : Hp) (ts : List T) (vs : List V) (env : Env) (σ : St) (t : T) (env' : Env), OkS K G0 H0 W H ts vs env σ → f env = some (t, env') →
  ∀ Q : VK, (∀ v H', Same H H' → OkS K G0 H0 W H' (t :: ts) (v :: vs) env' σ → Q v H') → te σ H Q
def EvV (K : PySem.W.Frag) (te : TE) (f : EF) : Prop := ∀ (G0 H0 : Hp) (W : List (T × V)) (H : Hp) (ts : List T) (vs : List V) (env : Env) (σ : St) (t : T) (env' : Env), OkS K G0 H0 W H ts vs env σ → f env = some (t, env') →
  ∀ Q : VK, (∀ v H', Same H H' → OkS K G0 H0 ((t, v) :: W) H' ts vs env' σ → Q v H') → te σ H Q
def EvA (K : PySem.W.Frag) (ta : TA) (f : AF) : Prop := ∀ (G0 H0 : Hp) (W : List (T × V)) (H : Hp) (ts : List T) (vs : List V) (env : Env) (σ : St) (us : List T) (env' : Env), OkS K G0 H0 W H ts vs env σ → f env = some (us, env') →
  ∀ Q : List V → Hp → Prop, (∀ ws H', Same H H' → ws.length = us.length → OkS K G0 H0 W H' (us ++ ts) (ws ++ vs) env' σ → Q ws H') → ta σ H Q
def EvC (K : PySem.W.Frag) (tc : TT) (f : CF) : Prop := ∀ (G0 H0 : Hp) (W : List (T × V)) (H : Hp) (ts : List T) (vs : List V) (env : Env) (σ : St) (c : Bool) (env' : Env), OkS K G0 H0 W H ts vs env σ → f env = some (c, env') →
  ∀ Q : Bool → Hp → Prop, (∀ H', Same H H' → OkS K G0 H0 W H' ts vs env' σ → Q c H') → tc σ H Q
structure DT (X : Cx) (e : Expr) (te : TE) (f : EF) : Prop where
  pe : PE X e te
  ok : EvT X.K te f
structure DV (X : Cx) (e : Expr) (te : TE) (f : EF) : Prop where
  pe : PE X e te
  ok : EvV X.K te f
structure DA (X : Cx) (es : List Expr) (ta : TA) (f : AF) : Prop where
  pa : PA X es ta
  ok : EvA X.K ta f
structure DC (X : Cx) (e : Expr) (tc : TT) (f : CF) : Prop where
  pt : PT X e tc
  ok : EvC X.K tc f


section
variable {K : PySem.W.Frag} {G0 H0 H : Hp} {W : List (T × V)} {ts : List T} {vs : List V} {env : Env} {σ : St} {t : T} {v : V}
theorem OkS.dup {d : D} (S : OkS K G0 H0 W H (.p d :: ts) (v :: vs) env σ) : OkS K G0 H0 W H (.p d :: .p d :: ts) (v :: v :: vs) env σ := by
  obtain ⟨G, ot, oe, s⟩ := S
  obtain ⟨u, r, o1, o2, h1, h2, h3, h4⟩ := id s.tmp
  cases h1
  refine ⟨G, ot, oe, ⟨v, _, [], ot, rfl, ⟨h2.1, rfl⟩, s.tmp, rfl⟩, s.env, s.nd, s.fr, s.g0, s.gh, s.h0, s.nw, s.vw⟩
theorem OkS.len (S : OkS K G0 H0 W H ts vs env σ) : σ.length = env.length := by
  obtain ⟨G, ot, oe, s⟩ := S
  exact s.env.len
end
theorem obind {α β : Type} {x : Option α} {f : α → Option β} {y : β} (h : x.bind f = some y) : ∃ a, x = some a ∧ f a = some y := by
  cases x with
  | none => cases h
  | some a => exact ⟨a, rfl, h⟩
theorem omap {α β : Type} {x : Option α} {f : α → β} {y : β} (h : x.map f = some y) : ∃ a, x = some a ∧ f a = y := by
  cases x with
  | none => cases h
  | some a => exact ⟨a, rfl, Option.some.inj h⟩
theorem set_back {α : Type} {l : List α} {i : Nat} {x : α} (h : l[i]? = some x) : l.set i x = l := by
  obtain ⟨h1, e⟩ := List.getElem?_eq_some_iff.mp h
  rw [← e]; exact List.set_getElem_self h1

/-! ### names, constants -/
def eC (d : D) : EF := fun env => some (.p d, env)
def eV (i : Nat) : EF := fun env => match env[i]? with
  | some (some (.p d)) => some (.p d, env)
  | some (some t) => some (.p t.toD, env.set i (some (.p t.toD)))
  | _ => none
def eM (i : Nat) : EF := fun env => match env[i]? with
  | some (some t) => some (t, env.set i none)
  | _ => none
def eB (i : Nat) : EF := fun env => match env[i]? with
  | some (some t) => some (t, env)
  | _ => none
theorem ev_c {K : PySem.W.Frag} {d : D} {v : V} (h : ∀ G, RpD K G d v) : EvT K (tC v) (eC d) := by
  intro G0 H0 W H ts vs env σ t env' S e Q q
  cases e
  exact q v H (Same.refl _) (S.scal h)
theorem ev_v {K : PySem.W.Frag} {i : Nat} : EvT K (tVar i) (eV i) := by
  intro G0 H0 W H ts vs env σ t env' S e Q q
  unfold eV at e
  cases h : env[i]? with
  | none => rw [h] at e; cases e
  | some x =>
    rw [h] at e
    cases x with
    | none => cases e
    | some u =>
      have own : (∀ d, u ≠ .p d) → some (T.p u.toD, env.set i (some (.p u.toD))) = some (t, env') → tVar i σ H Q := fun _ e => by
        cases e
        obtain ⟨v, hv, S1⟩ := S.get h
        have hl : i < env.length := (List.getElem?_eq_some_iff.mp h).1
        have S2 := S1.frz.dup.put (i := i) (by simpa using hl)
        rw [List.set_set, set_back hv] at S2
        exact ⟨v, hv, q v H (Same.refl _) S2⟩
      cases u with
      | p d =>
        cases e
        obtain ⟨v, hv, S1⟩ := S.look h
        exact ⟨v, hv, q v H (Same.refl _) S1.ofview⟩
      | lst us => exact own (fun d z => by cases z) e
      | tup us => exact own (fun d z => by cases z) e
      | dic us => exact own (fun d z => by cases z) e
      | dit us => exact own (fun d z => by cases z) e
      | obj n us => exact own (fun d z => by cases z) e
      | box a us => exact own (fun d z => by cases z) e
      | al a => exact own (fun d z => by cases z) e
theorem ev_m {K : PySem.W.Frag} {i : Nat} : EvT K (tVar i) (eM i) := by
  intro G0 H0 W H ts vs env σ t env' S e Q q
  unfold eM at e
  cases h : env[i]? with
  | none => rw [h] at e; cases e
  | some x =>
    rw [h] at e
    cases x with
    | none => cases e
    | some u =>
      cases e
      obtain ⟨v, hv, S1⟩ := S.get h
      exact ⟨v, hv, q v H (Same.refl _) S1⟩
theorem ev_b {K : PySem.W.Frag} {i : Nat} : EvV K (tVar i) (eB i) := by
  intro G0 H0 W H ts vs env σ t env' S e Q q
  unfold eB at e
  cases h : env[i]? with
  | none => rw [h] at e; cases e
  | some x =>
    rw [h] at e
    cases x with
    | none => cases e
    | some u =>
      cases e
      obtain ⟨v, hv, S1⟩ := S.look h
      exact ⟨v, hv, q v H (Same.refl _) S1⟩
theorem EvT.view {K : PySem.W.Frag} {te : TE} {f : EF} (h : EvT K te f) : EvV K te f := by
  intro G0 H0 W H ts vs env σ t env' S e Q q
  exact h _ _ _ _ _ _ _ _ _ _ S e Q fun v H' s S' => q v H' s S'.toview
/-- a looked-at value, where it is pure -/
def eW (f : EF) : EF := fun env => (f env).bind fun r => match r.1 with | .p d => some (.p d, r.2) | _ => none
theorem EvV.val {K : PySem.W.Frag} {te : TE} {f : EF} (h : EvV K te f) : EvT K te (eW f) := by
  intro G0 H0 W H ts vs env σ t env' S e Q q
  obtain ⟨⟨u, e1⟩, h1, h2⟩ := obind e
  cases u with
  | p d => cases h2; exact h _ _ _ _ _ _ _ _ _ _ S h1 Q fun v H' s S' => q v H' s S'.ofview
  | lst _ => cases h2
  | tup _ => cases h2
  | dic _ => cases h2
  | dit _ => cases h2
  | obj _ _ => cases h2
  | box _ _ => cases h2
  | al _ => cases h2
section
variable {X : Cx} {e a b : Expr} {es : List Expr} {te ta tb : TE} {tr : TA} {f fa fb : EF} {fr : AF} {pos : Pos}
theorem dt_int {i j} : DT X (.Constant (.int i) j pos) (tC (.int i)) (eC (.int i)) := ⟨pe_int, ev_c fun _ => rfl⟩
theorem dt_bl {b j} : DT X (.Constant (.bool b) j pos) (tC (.bl b)) (eC (.bl b)) := ⟨pe_bl, ev_c fun _ => rfl⟩
theorem dt_non {j} : DT X (.Constant .none j pos) (tC .non) (eC .non) := ⟨pe_non, ev_c fun _ => rfl⟩
theorem dt_str {x j} : DT X (.Constant (.str x) j pos) (tC (.str x)) (eC (.str x)) := ⟨pe_str, ev_c fun _ => rfl⟩
theorem dt_v (i : Nat) {x : Str} (hN : X.N[i]? = some x := by rfl) (hv : Vis X.env.scope x := by first | exact Or.inl rfl | exact Or.inr (Or.inl rfl) | exact Or.inr (Or.inr rfl)) (hd : (x == ("__debug__" : Str)) = false := by decide)
    (hcd : (x == ("__classdict__" : Str)) = false := by decide) : DT X (.Name x pos) (tVar i) (eV i) := ⟨pe_var hN hv hd hcd, ev_v⟩
theorem dt_m (i : Nat) {x : Str} (hN : X.N[i]? = some x := by rfl) (hv : Vis X.env.scope x := by first | exact Or.inl rfl | exact Or.inr (Or.inl rfl) | exact Or.inr (Or.inr rfl)) (hd : (x == ("__debug__" : Str)) = false := by decide)
    (hcd : (x == ("__classdict__" : Str)) = false := by decide) : DT X (.Name x pos) (tVar i) (eM i) := ⟨pe_var hN hv hd hcd, ev_m⟩
theorem dv_v (i : Nat) {x : Str} (hN : X.N[i]? = some x := by rfl) (hv : Vis X.env.scope x := by first | exact Or.inl rfl | exact Or.inr (Or.inl rfl) | exact Or.inr (Or.inr rfl)) (hd : (x == ("__debug__" : Str)) = false := by decide)
    (hcd : (x == ("__classdict__" : Str)) = false := by decide) : DV X (.Name x pos) (tVar i) (eB i) := ⟨pe_var hN hv hd hcd, ev_b⟩
theorem DT.dv (h : DT X e te f) : DV X e te f := ⟨h.pe, h.ok.view⟩
theorem DV.dt (h : DV X e te f) : DT X e te (eW f) := ⟨h.pe, h.ok.val⟩

/-! ### arguments, displays -/
def aN : AF := fun env => some ([], env)
def aC (f : EF) (r : AF) : AF := fun env => (f env).bind fun x => (r x.2).map fun y => (x.1 :: y.1, y.2)
theorem da_nil : DA X [] tNil aN := by
  refine ⟨pa_nil, ?_⟩
  intro G0 H0 W H ts vs env σ us env' S e Q q
  cases e
  exact q [] H (Same.refl _) rfl S
theorem da_cons (h : DT X e te f) (hr : DA X es tr fr) (hs : starEach (e :: es) X.env = (false, eval e X.env) :: starEach es X.env := by rfl) : DA X (e :: es) (tCons te tr) (aC f fr) := by
  refine ⟨pa_cons h.pe hr.pa hs, ?_⟩
  intro G0 H0 W H ts vs env σ us env' S g Q q
  obtain ⟨⟨x, e1⟩, h1, h2⟩ := obind g
  obtain ⟨⟨y, e2⟩, h3, h4⟩ := omap h2
  cases h4
  refine h.ok _ _ _ _ _ _ _ _ _ _ S h1 _ fun v H1 s1 S1 => ?_
  refine hr.ok _ _ _ _ _ _ _ _ _ _ S1 h3 _ fun ws H2 s2 hl S2 => ?_
  exact q (v :: ws) H2 (s1.trans s2) (by simp [hl]) (S2.mid hl)
def eL (r : AF) : EF := fun env => (r env).bind fun x => if x.1.length ≤ 1000 then some (.lst x.1, x.2) else none
def eT (r : AF) : EF := fun env => (r env).bind fun x => if x.1.length ≤ 1000 then some (mkTup x.1, x.2) else none
theorem le1000 {n : Nat} (h : n ≤ 1000) : n ≤ sizeLine := by rw [sizeLine_eq]; omega
theorem dt_lst (h : DA X es tr fr) : DT X (.List es pos) (tLst tr) (eL fr) := by
  refine ⟨pe_lst h.pa, ?_⟩
  intro G0 H0 W H ts vs env σ t env' S g Q q
  obtain ⟨⟨x, e1⟩, h1, h2⟩ := obind g
  by_cases hl : x.length ≤ 1000
  · rw [if_pos hl] at h2
    cases h2
    refine h.ok _ _ _ _ _ _ _ _ _ _ S h1 _ fun ws H1 s1 hw S1 => ⟨by rw [hw]; exact le1000 hl, fun p hp => ?_⟩
    exact q _ _ (s1.trans (same_upd hp)) (S1.newL hw hp)
  · rw [if_neg hl] at h2; cases h2
theorem dt_tup {k} (h : DA X es tr fr) : DT X (.Tuple es k pos) (tTup tr) (eT fr) := by
  refine ⟨pe_tup h.pa, ?_⟩
  intro G0 H0 W H ts vs env σ t env' S g Q q
  obtain ⟨⟨x, e1⟩, h1, h2⟩ := obind g
  by_cases hl : x.length ≤ 1000
  · rw [if_pos hl] at h2
    cases h2
    refine h.ok _ _ _ _ _ _ _ _ _ _ S h1 _ fun ws H1 s1 hw S1 => ⟨by rw [hw]; exact le1000 hl, fun p hp => ?_⟩
    exact q _ _ (s1.trans (same_upd hp)) (S1.newT hw hp)
  · rw [if_neg hl] at h2; cases h2

/-! ### operators on scalars -/
def eOp (g : D → D → Option D) (fa fb : EF) : EF := fun env => (fa env).bind fun x => (fb x.2).bind fun y => match x.1, y.1 with
  | .p a, .p b => (g a b).map fun d => (.p d, y.2)
  | _, _ => none
theorem eOp_some {g : D → D → Option D} {t : T} {env env' : Env} (h : eOp g fa fb env = some (t, env')) : ∃ a e1 b d, fa env = some (.p a, e1) ∧ fb e1 = some (.p b, env') ∧ g a b = some d ∧ t = .p d := by
  obtain ⟨⟨x, e1⟩, h1, h2⟩ := obind h
  obtain ⟨⟨y, e2⟩, h3, h4⟩ := obind h2
  cases x with
  | p a =>
    cases y with
    | p b =>
      obtain ⟨d, h5, h6⟩ := omap h4
      cases h6
      exact ⟨a, e1, b, d, h1, h3, h5, rfl⟩
    | lst _ => cases h4
    | tup _ => cases h4
    | dic _ => cases h4
    | dit _ => cases h4
    | obj _ _ => cases h4
    | box _ _ => cases h4
    | al _ => cases h4
  | lst _ => cases h4
  | tup _ => cases h4
  | dic _ => cases h4
  | dit _ => cases h4
  | obj _ _ => cases h4
  | box _ _ => cases h4
  | al _ => cases h4
def Sc2 (r : R2) (g : D → D → Option D) : Prop := ∀ a b d, g a b = some d → ∀ (K : PySem.W.Frag) (H : Hp) (v w : V) (Q : VK), RpD K H a v → RpD K H b w → (∀ u, (∀ G, RpD K G d u) → Q u H) → r v w H Q
theorem ev_op {K : PySem.W.Frag} {r : R2} {g : D → D → Option D} (hs : Sc2 r g) (ha : EvT K ta fa) (hb : EvT K tb fb) : EvT K (tOp r ta tb) (eOp g fa fb) := by
  intro G0 H0 W H ts vs env σ t env' S e Q q
  obtain ⟨a, e1, b, d, h1, h2, h3, rfl⟩ := eOp_some e
  refine ha _ _ _ _ _ _ _ _ _ _ S h1 _ fun v H1 s1 S1 => ?_
  refine hb _ _ _ _ _ _ _ _ _ _ S1 h2 _ fun w H2 s2 S2 => ?_
  exact hs a b d h3 K H2 v w Q S2.pop.top S2.top fun u hu => q u H2 (s1.trans s2) (S2.pop.pop.scal hu)
theorem dt_op {op : Operator} {r : R2} {g : D → D → Option D} (ho : OpR X (binaryOp op) r) (hs : Sc2 r g) (ha : DT X a ta fa) (hb : DT X b tb fb) : DT X (.BinOp a op b pos) (tOp r ta tb) (eOp g fa fb) :=
  ⟨pe_op ho ha.pe hb.pe, ev_op hs ha.ok hb.ok⟩
end
/-- two ints, bounded as the machine asks -/
def gI (c : Int → Int → Bool) (f : Int → Int → Int) : D → D → Option D
  | .int i, .int j => if c i j then some (.int (f i j)) else none
  | _, _ => none
theorem gI_some {c : Int → Int → Bool} {f : Int → Int → Int} {a b d : D} (h : gI c f a b = some d) : ∃ i j, a = .int i ∧ b = .int j ∧ c i j = true ∧ d = .int (f i j) := by
  unfold gI at h
  split at h
  · rename_i i j
    by_cases hc : c i j = true
    · rw [if_pos hc] at h; cases h; exact ⟨i, j, rfl, rfl, hc, rfl⟩
    · rw [if_neg hc] at h; cases h
  · cases h
theorem sc_int {C : Int → Int → Prop} {c : Int → Int → Bool} {f : Int → Int → Int} (hc : ∀ i j, c i j = true → C i j) : Sc2 (rI C fun i j => .int (f i j)) (gI c f) := by
  intro a b d h K H v w Q hv hw q
  obtain ⟨i, j, rfl, rfl, h1, rfl⟩ := gI_some h
  exact ⟨i, j, hv, hw, hc i j h1, q _ fun _ => rfl⟩
theorem sc_int0 {f : Int → Int → Int} : Sc2 (rI0 fun i j => .int (f i j)) (gI (fun _ _ => true) f) := by
  intro a b d h K H v w Q hv hw q
  obtain ⟨i, j, rfl, rfl, h1, rfl⟩ := gI_some h
  exact ⟨i, j, hv, hw, q _ fun _ => rfl⟩
def mulOk (i j : Int) : Bool := decide ((-18446744073709551616 < i ∧ i < 18446744073709551616) ∨ (-18446744073709551616 < j ∧ j < 18446744073709551616) ∨ Builtin.Int.intBits i + Builtin.Int.intBits j ≤ 134217728)
def divOk (_ j : Int) : Bool := decide (0 < j ∧ j < 1606938044258990275541962092341162602522202993782792835301376)
def modOk (_ j : Int) : Bool := decide (0 < j)
def powOk (i j : Int) : Bool := decide (0 ≤ j ∧ j ≤ 1000 ∧ 0 ≤ i ∧ i < 18446744073709551616)
theorem mulOk_ok {i j : Int} (h : mulOk i j = true) : IntMulOk i j := by
  rcases of_decide_eq_true h with h | h | h
  · exact .of_left (intBits_le_64 (by omega) (by omega))
  · exact .of_right (intBits_le_64 (by omega) (by omega))
  · exact PyProof.Rows.mulOk_of_bits (Nat.le_refl _) (Nat.le_refl _) h
section
variable {X : Cx}
theorem op_mulB : OpR X (binaryOp .Mult) (rI IntMulOk fun i j => .int (i * j)) := opI fun _ _ _ _ _ _ _ hc q => mul_int q hc
theorem divOk_ok {i j : Int} (h : divOk i j = true) : CDivW i j := by
  obtain ⟨h1, h2⟩ := of_decide_eq_true h
  refine wide_div h1 (b := 200) ?_ (by decide) (by decide)
  have e : (2 : Nat) ^ 200 = 1606938044258990275541962092341162602522202993782792835301376 := by decide
  rw [e]; omega
theorem powOk_ok {i j : Int} (h : powOk i j = true) : CPow i j := by
  obtain ⟨h1, h2, h3, h4⟩ := of_decide_eq_true h
  refine ⟨h1, by omega, ?_⟩
  omega
end
end DL

set_option Elab.async false
set_option linter.all false
set_option maxRecDepth 100000
namespace DL
open PySem PySem.Spec PyProof.Rows L2

/-! ### statements -/
inductive Fl where
  | nx | rt (t : T) | bk | ct
abbrev SF := Env → Option (Fl × Env)
/-- the names' places outside sl are as they were -/
def Dif (sl : List Nat) (σ σ' : St) : Prop := σ'.length = σ.length ∧ ∀ j, j ∉ sl → σ'[j]? = σ[j]?
theorem Dif.rfl' {sl : List Nat} {σ : St} : Dif sl σ σ := ⟨rfl, fun _ _ => rfl⟩
theorem Dif.set {i : Nat} {σ : St} {x : Option V} : Dif [i] σ (σ.set i x) := ⟨by simp, fun j hj => List.getElem?_set_ne (fun z => hj (by simp [z]))⟩
theorem Dif.tr {s1 s2 : List Nat} {σ σ1 σ2 : St} (a : Dif s1 σ σ1) (b : Dif s2 σ1 σ2) : Dif (s1 ++ s2) σ σ2 := ⟨b.1.trans a.1, fun j hj => (b.2 j fun z => hj (List.mem_append_right _ z)).trans (a.2 j fun z => hj (List.mem_append_left _ z))⟩
theorem Dif.l {s1 s2 : List Nat} {σ σ1 : St} (a : Dif s1 σ σ1) : Dif (s1 ++ s2) σ σ1 := ⟨a.1, fun j hj => a.2 j fun z => hj (List.mem_append_left _ z)⟩
theorem Dif.r {s1 s2 : List Nat} {σ σ1 : St} (a : Dif s2 σ σ1) : Dif (s1 ++ s2) σ σ1 := ⟨a.1, fun j hj => a.2 j fun z => hj (List.mem_append_right _ z)⟩
theorem Dif.two {s : List Nat} {σ σ1 σ2 : St} (a : Dif s σ σ1) (b : Dif s σ1 σ2) : Dif s σ σ2 := ⟨b.1.trans a.1, fun j hj => (b.2 j hj).trans (a.2 j hj)⟩
def Post (K : PySem.W.Frag) (G0 H0 : Hp) (ts : List T) (vs : List V) (D : Ends) (fl : Fl) (env' : Env) (sl : List Nat) (σ : St) : Prop := match fl with
  | .nx => ∀ H' σ', OkS K G0 H0 [] H' ts vs env' σ' → Dif sl σ σ' → D.nx σ' H'
  | .bk => ∀ H' σ', OkS K G0 H0 [] H' ts vs env' σ' → Dif sl σ σ' → D.bk σ' H'
  | .ct => ∀ H' σ', OkS K G0 H0 [] H' ts vs env' σ' → Dif sl σ σ' → D.ct σ' H'
  | .rt t => ∀ v H' σ', OkS K G0 H0 [] H' (t :: ts) (v :: vs) env' σ' → Dif sl σ σ' → D.rt v H'
def EvS (K : PySem.W.Frag) (s : TS) (F : SF) (sl : List Nat) : Prop := ∀ (G0 H0 H : Hp) (ts : List T) (vs : List V) (env : Env) (σ : St) (fl : Fl) (env' : Env), OkS K G0 H0 [] H ts vs env σ → F env = some (fl, env') → ∀ D : Ends, Post K G0 H0 ts vs D fl env' sl σ → s D σ H
structure DS (X : Cx) (st : Stmt) (s : TS) (F : SF) (sl : List Nat) : Prop where
  ps : PS X st s
  ok : EvS X.K s F sl
structure DSs (X : Cx) (st : List Stmt) (s : TS) (F : SF) (sl : List Nat) : Prop where
  ps : PSs X st s
  ok : EvS X.K s F sl
def sNx : SF := fun env => some (.nx, env)
def sSeq (F1 F2 : SF) : SF := fun env => (F1 env).bind fun r => match r.1 with
  | .nx => F2 r.2
  | .rt t => some (.rt t, r.2)
  | .bk => some (.bk, r.2)
  | .ct => some (.ct, r.2)
def sRet (f : EF) : SF := fun env => (f env).map fun r => (.rt r.1, r.2)
def sRetN : SF := fun env => some (.rt (.p .non), env)
def sBk : SF := fun env => some (.bk, env)
def sCt : SF := fun env => some (.ct, env)
def sNo : SF := fun _ => none
def sIf (c : CF) (F1 F2 : SF) : SF := fun env => (c env).bind fun r => if r.1 then F1 r.2 else F2 r.2
def sSet (i : Nat) (f : EF) : SF := fun env => (f env).bind fun r => if i < r.2.length then some (.nx, r.2.set i (some r.1)) else none
def sDrop (f : EF) : SF := fun env => (f env).map fun r => (.nx, r.2)
section
variable {X : Cx} {e : Expr} {st : Stmt} {sts : List Stmt} {te : TE} {tc : TT} {f : EF} {c : CF} {t u : TS} {F1 F2 : SF} {pos : Pos} {sl sl2 : List Nat}
theorem dss_nil : DSs X [] tNext sNx [] := by
  refine ⟨pss_nil, ?_⟩
  intro G0 H0 H ts vs env σ fl env' S e D q
  cases e
  exact q H σ S .rfl'
theorem dss_cons (h1 : DS X st t F1 sl) (h2 : DSs X sts u F2 sl2) : DSs X (st :: sts) (tSeq t u) (sSeq F1 F2) (sl ++ sl2) := by
  refine ⟨pss_cons h1.ps h2.ps, ?_⟩
  intro G0 H0 H ts vs env σ fl env' S g D q
  obtain ⟨⟨fl1, e1⟩, g1, g2⟩ := obind g
  refine h1.ok _ _ _ _ _ _ _ _ _ S g1 _ ?_
  cases fl1 with
  | nx =>
    intro H' σ' S' f1
    refine h2.ok _ _ _ _ _ _ _ _ _ S' g2 D ?_
    cases fl with
    | nx => exact fun H2 σ2 S2 f2 => q H2 σ2 S2 (f1.tr f2)
    | bk => exact fun H2 σ2 S2 f2 => q H2 σ2 S2 (f1.tr f2)
    | ct => exact fun H2 σ2 S2 f2 => q H2 σ2 S2 (f1.tr f2)
    | rt v => exact fun w H2 σ2 S2 f2 => q w H2 σ2 S2 (f1.tr f2)
  | rt t => cases g2; exact fun w H2 σ2 S2 f2 => q w H2 σ2 S2 f2.l
  | bk => cases g2; exact fun H2 σ2 S2 f2 => q H2 σ2 S2 f2.l
  | ct => cases g2; exact fun H2 σ2 S2 f2 => q H2 σ2 S2 f2.l
theorem dss_one (h1 : DS X st t F1 sl) : DSs X [st] t F1 sl := ⟨pss_one h1.ps, h1.ok⟩
theorem dss_never : DSs X sts tNever sNo [] := ⟨pss_never, fun _ _ _ _ _ _ _ _ _ _ e _ _ => nomatch e⟩
theorem ds_never : DS X st tNever sNo [] := ⟨ps_never, fun _ _ _ _ _ _ _ _ _ _ e _ _ => nomatch e⟩
theorem ds_pass : DS X (.Pass pos) tNext sNx [] := ⟨ps_pass, fun _ _ H _ _ _ σ _ _ S e _ q => by cases e; exact q H σ S .rfl'⟩
theorem ds_break : DS X (.Break pos) tBreak sBk [] := ⟨ps_break, fun _ _ H _ _ _ σ _ _ S e _ q => by cases e; exact q H σ S .rfl'⟩
theorem ds_continue : DS X (.Continue pos) tCont sCt [] := ⟨ps_continue, fun _ _ H _ _ _ σ _ _ S e _ q => by cases e; exact q H σ S .rfl'⟩
theorem ds_doc {x j pos'} : DS X (.Expr (.Constant (.str x) j pos) pos') tNext sNx [] := ⟨ps_doc, fun _ _ H _ _ _ σ _ _ S e _ q => by cases e; exact q H σ S .rfl'⟩
theorem ds_ret (h : DT X e te f) : DS X (.Return (some e) pos) (tRet te) (sRet f) [] := by
  refine ⟨ps_ret h.pe, ?_⟩
  intro G0 H0 H ts vs env σ fl env' S g D q
  obtain ⟨⟨x, e1⟩, g1, g2⟩ := omap g
  cases g2
  exact h.ok _ _ _ _ _ _ _ _ _ _ S g1 _ fun v H' _ S' => q v H' σ S' .rfl'
theorem ds_retN : DS X (.Return none pos) tRetN sRetN [] := by
  refine ⟨ps_retN, ?_⟩
  intro G0 H0 H ts vs env σ fl env' S g D q
  cases g
  exact q .non H σ (S.scal fun _ => rfl) .rfl'
theorem ds_if {a b : List Stmt} (hc : DC X e tc c) (h1 : DSs X a t F1 sl) (h2 : DSs X b u F2 sl2) : DS X (.If e a b pos) (tIfS tc t u) (sIf c F1 F2) (sl ++ sl2) := by
  refine ⟨ps_if hc.pt h1.ps h2.ps, ?_⟩
  intro G0 H0 H ts vs env σ fl env' S g D q
  obtain ⟨⟨b, e1⟩, g1, g2⟩ := obind g
  refine hc.ok _ _ _ _ _ _ _ _ _ _ S g1 _ fun H' _ S' => ?_
  cases b with
  | true =>
    rw [if_pos rfl]
    refine h1.ok _ _ _ _ _ _ _ _ _ S' g2 D ?_
    cases fl with
    | nx => exact fun H2 σ2 S2 f2 => q H2 σ2 S2 f2.l
    | bk => exact fun H2 σ2 S2 f2 => q H2 σ2 S2 f2.l
    | ct => exact fun H2 σ2 S2 f2 => q H2 σ2 S2 f2.l
    | rt v => exact fun w H2 σ2 S2 f2 => q w H2 σ2 S2 f2.l
  | false =>
    rw [if_neg Bool.false_ne_true]
    refine h2.ok _ _ _ _ _ _ _ _ _ S' g2 D ?_
    cases fl with
    | nx => exact fun H2 σ2 S2 f2 => q H2 σ2 S2 f2.r
    | bk => exact fun H2 σ2 S2 f2 => q H2 σ2 S2 f2.r
    | ct => exact fun H2 σ2 S2 f2 => q H2 σ2 S2 f2.r
    | rt v => exact fun w H2 σ2 S2 f2 => q w H2 σ2 S2 f2.r
theorem ds_drop (h : DT X e te f) (hs : swapsWith e none pos.line X.env = pure false := by rfl) : DS X (.Expr e pos) (tDrop te) (sDrop f) [] := by
  refine ⟨ps_expr h.pe hs, ?_⟩
  intro G0 H0 H ts vs env σ fl env' S g D q
  obtain ⟨⟨x, e1⟩, g1, g2⟩ := omap g
  cases g2
  exact h.ok _ _ _ _ _ _ _ _ _ _ S g1 _ fun v H' _ S' => q H' σ S'.pop .rfl'
theorem evs_set {K : PySem.W.Frag} {i : Nat} (h : EvT K te f) : EvS K (tAsg te (gName i)) (sSet i f) [i] := by
  intro G0 H0 H ts vs env σ fl env' S g D q
  obtain ⟨⟨x, e1⟩, g1, g2⟩ := obind g
  by_cases hi : i < e1.length
  · rw [if_pos hi] at g2
    cases g2
    exact h _ _ _ _ _ _ _ _ _ _ S g1 _ fun v H' _ S' => q H' _ (S'.put hi) .set
  · rw [if_neg hi] at g2; cases g2
theorem ds_set {i : Nat} {x : Str} {pos' : Pos} (hN : X.N.Nodup) (hi : X.N[i]? = some x) (hx : Loc X.env.scope x) (he : DT X e te f) (hs : swapsWith e (some (.Name x pos')) pos.line X.env = pure false := by rfl) (hf : X.fn x = true ∨ X.env.scope.names.lookup x = some .local := by first | exact .inl rfl | exact .inr rfl | assumption) :
    DS X (.Assign [.Name x pos'] e pos) (tAsg te (gName i)) (sSet i f) [i] := ⟨ps_set hN hi hx he.pe hs hf, evs_set he.ok⟩
end

/-! ### targets -/
abbrev GF := T → Env → Option Env
abbrev GsF := List T → Env → Option Env
def EvG (K : PySem.W.Frag) (g : TG) (G : GF) (sl : List Nat) : Prop := ∀ (G0 H0 : Hp) (W : List (T × V)) (H : Hp) (ts : List T) (vs : List V) (env : Env) (σ : St) (d : T) (x : V) (env' : Env), OkS K G0 H0 W H (d :: ts) (x :: vs) env σ → G d env = some env' →
  ∀ Q : St → Hp → Prop, (∀ σ', OkS K G0 H0 W H ts vs env' σ' → Dif sl σ σ' → Q σ' H) → g x σ H Q
def EvGs (K : PySem.W.Frag) (g : TGs) (G : GsF) (sl : List Nat) : Prop := ∀ (G0 H0 : Hp) (W : List (T × V)) (H : Hp) (ts : List T) (vs : List V) (env : Env) (σ : St) (ds : List T) (xs : List V) (env' : Env), OkS K G0 H0 W H (ds ++ ts) (xs ++ vs) env σ → xs.length = ds.length → G ds env = some env' →
  ∀ Q : St → Hp → Prop, (∀ σ', OkS K G0 H0 W H ts vs env' σ' → Dif sl σ σ' → Q σ' H) → g xs σ H Q
structure DG (X : Cx) (tg : Expr) (g : TG) (G : GF) (sl : List Nat) : Prop where
  pg : PG X tg g
  ok : EvG X.K g G sl
structure DGs (X : Cx) (tg : List Expr) (g : TGs) (G : GsF) (sl : List Nat) : Prop where
  pg : PGs X tg g
  ok : EvGs X.K g G sl
def gNm (i : Nat) : GF := fun d env => if i < env.length then some (env.set i (some d)) else none
def gEnd : GsF := fun ds env => match ds with | [] => some env | _ => none
def gAnd (g : GF) (r : GsF) : GsF := fun ds env => match ds with | d :: ds => (g d env).bind (r ds) | [] => none
def partsT : T → Option (List T)
  | .p (.tup ds) => some (ds.map T.p)
  | .tup ts => some ts
  | _ => none
def gTp (n : Nat) (g : GsF) : GF := fun d env => (partsT d).bind fun us => if us.length = n then g us env else none
theorem OkS.parts {K : PySem.W.Frag} {G0 H0 H : Hp} {W : List (T × V)} {ts us : List T} {vs : List V} {env : Env} {σ : St} {v : V} {t : T} (S : OkS K G0 H0 W H (t :: ts) (v :: vs) env σ) (h : partsT t = some us) :
    ∃ a xs, v = .ref a ∧ SqT K H a xs ∧ xs.length = us.length ∧ OkS K G0 H0 W H (us ++ ts) (xs ++ vs) env σ := by
  obtain ⟨G, ot, oe, s⟩ := S
  obtain ⟨u, r, o1, o2, h1, h2, h3, h4⟩ := s.tmp
  cases h1
  cases t with
  | p d =>
    cases d with
    | tup ds =>
      cases h
      obtain ⟨⟨a, xs, e1, e2, e3⟩, e4⟩ := h2
      subst e4
      refine ⟨a, xs, e1, tup_seq s.gh e2, by rw [List.length_map]; exact e3.len, G, ot, oe, ?_, s.env, s.nd, s.fr, s.g0, s.gh, s.h0, s.nw, s.vw⟩
      rw [h4]
      exact (rpTs_p e3).append h3
    | _ => cases h
  | tup us' =>
    cases h
    obtain ⟨a, xs, e1, e2, e3⟩ := h2
    refine ⟨a, xs, e1, tup_seq s.gh e2, e3.len, G, ot, oe, ?_, s.env, s.nd, s.fr, s.g0, s.gh, s.h0, s.nw, s.vw⟩
    rw [h4]
    exact e3.append h3
  | lst _ => cases h
  | dic _ => cases h
  | dit _ => cases h
  | obj _ _ => cases h
  | box _ _ => cases h
  | al _ => cases h
section
variable {X : Cx} {e : Expr} {es : List Expr} {g : TG} {gs : TGs} {G : GF} {Gs : GsF} {pos : Pos}
theorem dg_name {i : Nat} {x : Str} (hN : X.N.Nodup) (hi : X.N[i]? = some x) (hx : Loc X.env.scope x) (hf : X.fn x = true ∨ X.env.scope.names.lookup x = some .local := by first | exact .inl rfl | exact .inr rfl | assumption) : DG X (.Name x pos) (gName i) (gNm i) [i] := by
  refine ⟨pg_name hN hi hx hf, ?_⟩
  intro G0 H0 W H ts vs env σ d x env' S e Q q
  unfold gNm at e
  by_cases hl : i < env.length
  · rw [if_pos hl] at e
    cases e
    exact q _ (S.put hl) .set
  · rw [if_neg hl] at e; cases e
theorem dgs_nil : DGs X [] gNil gEnd [] := by
  refine ⟨pgs_nil, ?_⟩
  intro G0 H0 W H ts vs env σ ds xs env' S hl e Q q
  cases ds with
  | nil =>
    cases e
    cases xs with
    | nil => exact ⟨rfl, q σ S ⟨rfl, fun _ _ => rfl⟩⟩
    | cons _ _ => simp at hl
  | cons _ _ => cases e
theorem dgs_cons {sl sl2 : List Nat} (h1 : DG X e g G sl) (h2 : DGs X es gs Gs sl2) (hs : (assignEach (e :: es) X.env).map (·.2) = assign e X.env :: (assignEach es X.env).map (·.2) := by rfl) : DGs X (e :: es) (gCons g gs) (gAnd G Gs) (sl ++ sl2) := by
  refine ⟨pgs_cons h1.pg h2.pg hs, ?_⟩
  intro G0 H0 W H ts vs env σ ds xs env' S hl e Q q
  cases ds with
  | nil => cases e
  | cons d ds =>
    cases xs with
    | nil => simp at hl
    | cons x xs =>
      obtain ⟨e1, g1, g2⟩ := obind e
      refine ⟨x, xs, rfl, ?_⟩
      exact h1.ok _ _ _ _ _ _ _ _ _ _ _ S g1 _ fun σ' S' f1 => h2.ok _ _ _ _ _ _ _ _ _ _ _ S' (by simpa using hl) g2 _ fun σ2 S2 f2 => q σ2 S2 ⟨f2.1.trans f1.1, fun j hj => (f2.2 j fun z => hj (List.mem_append_right _ z)).trans (f1.2 j fun z => hj (List.mem_append_left _ z))⟩
theorem dg_tup {k n : Nat} {sl : List Nat} (hc : X.calm = true) (h : DGs X es gs Gs sl) (hn : (assignEach es X.env).length = n := by rfl) (hst : (assignEach es X.env).findIdx? (·.1) = none := by rfl) : DG X (.Tuple es k pos) (gTup X.K n gs) (gTp n Gs) sl := by
  refine ⟨pg_tup hc h.pg hn hst, ?_⟩
  intro G0 H0 W H ts vs env σ d x env' S e Q q
  obtain ⟨us, h1, h2⟩ := obind e
  by_cases hl : us.length = n
  · rw [if_pos hl] at h2
    obtain ⟨a, xs, rfl, hx, hxl, S'⟩ := S.parts h1
    exact ⟨a, xs, rfl, hx, hxl.trans hl, h.ok _ _ _ _ _ _ _ _ _ _ _ S' hxl h2 _ q⟩
  · rw [if_neg hl] at h2; cases h2
/-- target = e -/
def sAsg (f : EF) (G : GF) : SF := fun env => (f env).bind fun r => (G r.1 r.2).map fun e => (.nx, e)
theorem ds_asg {tg ex : Expr} {te : TE} {f : EF} {sl : List Nat} (he : DT X ex te f) (hg : DG X tg g G sl) (hs : swapsWithSole [tg] ex pos.line X.env = pure false := by rfl) (hw : swappedStores [tg] ex X.env = pure none := by rfl)
    (h1 : (assignEach [tg] X.env).map (·.2) = [assign tg X.env] := by rfl) : DS X (.Assign [tg] ex pos) (tAsg te g) (sAsg f G) sl := by
  refine ⟨ps_asg he.pe hg.pg hs hw h1, ?_⟩
  intro G0 H0 H ts vs env σ fl env' S k D q
  obtain ⟨⟨t, e1⟩, g1, g2⟩ := obind k
  obtain ⟨e2, g3, g4⟩ := omap g2
  cases g4
  exact he.ok _ _ _ _ _ _ _ _ _ _ S g1 _ fun v H1 s1 S1 => hg.ok _ _ _ _ _ _ _ _ _ _ _ S1 g3 _ fun σ' S' f' => q H1 σ' S' f'
end

/-! ### walks -/
structure ItOk (K : PySem.W.Frag) (G1 : Hp) (J : It) (ds : List D) : Prop where
  go : ∀ (i : Nat) (H : Hp), Same G1 H → i < ds.length → J.go i H
  stop : ∀ H : Hp, Same G1 H → J.stop ds.length H
  yld : ∀ (i : Nat) (H : Hp) (x : V) (H' : Hp) (d : D), Same G1 H → ds[i]? = some d → J.yld i H x H' → (H' = H ∧ RpD K G1 d x) ∨ ∃ (p : Addr) (xs : List V) (es : List D), H p = none ∧ H' = upd H p (.tup xs) ∧ x = .ref p ∧ d = .tup es ∧ RpDs K G1 es xs
structure Gst (G0 H0 G1 : Hp) : Prop where
  s : Same G0 G1
  nw : ∀ a o, G1 a = some o → G0 a ≠ none ∨ H0 a = none ∨ ∃ xs, o = .tup xs
section
variable {K : PySem.W.Frag} {G0 H0 H G1 : Hp} {W : List (T × V)} {ts : List T} {vs : List V} {env : Env} {σ : St} {t : T} {v : V}
theorem OkS.back (S : OkS K G1 H0 W H ts vs env σ) (g : Gst G0 H0 G1) : OkS K G0 H0 W H ts vs env σ := by
  obtain ⟨G, ot, oe, s⟩ := S
  refine ⟨G, ot, oe, s.tmp, s.env, s.nd, s.fr, g.s.trans s.g0, s.gh, s.h0, fun a o e => ?_, s.vw⟩
  rcases s.nw a o e with h | h | h
  · cases q : G1 a with
    | none => exact absurd q h
    | some u =>
      have := s.g0 a u q
      rw [e] at this
      cases this
      exact g.nw a o q
  · exact .inr (.inl h)
  · exact .inr (.inr h)
theorem OkS.fix (S : OkS K G0 H0 W H ts vs env σ) : ∃ G1, Gst G0 H0 G1 ∧ Same G1 H ∧ OkS K G1 H0 W H ts vs env σ := by
  obtain ⟨G, ot, oe, s⟩ := S
  refine ⟨G, ⟨s.g0, s.nw⟩, s.gh, G, ot, oe, s.tmp, s.env, s.nd, s.fr, Same.refl _, s.gh, s.h0, fun a o e => .inl (by rw [e]; simp), s.vw⟩
theorem OkS.fixTop {d : D} (S : OkS K G0 H0 W H (.p d :: ts) (v :: vs) env σ) : ∃ G1, Gst G0 H0 G1 ∧ Same G1 H ∧ RpD K G1 d v ∧ OkS K G1 H0 W H ts vs env σ := by
  have S' := S.pop
  obtain ⟨G, ot, oe, s⟩ := S
  obtain ⟨u, r, o1, o2, h1, h2, h3, h4⟩ := s.tmp
  cases h1
  have e4 : o2 = ot := by rw [h4, h2.2]; rfl
  rw [e4] at h3
  refine ⟨G, ⟨s.g0, s.nw⟩, s.gh, h2.1, G, ot, oe, h3, s.env, s.nd, s.fr, Same.refl _, s.gh, s.h0, fun a o e => .inl (by rw [e]; simp), s.vw⟩
theorem OkS.same (S : OkS K G1 H0 W H ts vs env σ) : Same G1 H := by
  obtain ⟨G, ot, oe, s⟩ := S
  exact s.g0.trans s.gh
theorem OkS.pushG {d : D} (S : OkS K G1 H0 W H ts vs env σ) (h : RpD K G1 d v) : OkS K G1 H0 W H (.p d :: ts) (v :: vs) env σ := by
  obtain ⟨G, ot, oe, s⟩ := S
  exact ⟨G, ot, oe, ⟨v, vs, [], ot, rfl, ⟨RpD.mono s.g0 _ h, rfl⟩, s.tmp, rfl⟩, s.env, s.nd, s.fr, s.g0, s.gh, s.h0, s.nw, s.vw⟩
theorem OkS.pushGs : ∀ {ds : List D} {xs : List V}, OkS K G1 H0 W H ts vs env σ → RpDs K G1 ds xs → OkS K G1 H0 W H (ds.map T.p ++ ts) (xs ++ vs) env σ
  | [], xs, S, h => by rw [show xs = [] from h]; exact S
  | d :: ds, xs, S, ⟨v, r, h1, h2, h3⟩ => by
    subst h1
    exact (OkS.pushGs S h3).pushG h2
end
theorem mkTup_p (ds : List D) : mkTup (ds.map T.p) = .p (.tup ds) := by
  have e : allP (ds.map T.p) = some ds := by
    induction ds with
    | nil => rfl
    | cons d ds ih => simp [allP, ih]
  unfold mkTup
  rw [e]
def loopD (G : GF) (body : SF) : List D → Env → Option (Fl × Env)
  | [], env => some (.nx, env)
  | d :: ds, env => (G (.p d) env).bind fun e1 => (body e1).bind fun r => match r.1 with
    | .nx => loopD G body ds r.2
    | .ct => loopD G body ds r.2
    | .bk => some (.nx, r.2)
    | .rt t => some (.rt t, r.2)
abbrev IF := Env → Option (List D × Env)
def EvI (K : PySem.W.Frag) (wi : TI) (f : IF) : Prop := ∀ (G0 H0 : Hp) (W : List (T × V)) (H : Hp) (ts : List T) (vs : List V) (env : Env) (σ : St) (ds : List D) (env' : Env), OkS K G0 H0 W H ts vs env σ → f env = some (ds, env') →
  ∀ R : It → Hp → Prop, (∀ J H' G1, Same H H' → Gst G0 H0 G1 → ItOk K G1 J ds → OkS K G1 H0 W H' ts vs env' σ → R J H') → wi σ H R
structure DI (X : Cx) (tg it : Expr) (wi : TI) (f : IF) : Prop where
  pi : PI X tg it wi
  ok : EvI X.K wi f
def sFor (f : IF) (G : GF) (body : SF) : SF := fun env => (f env).bind fun r => loopD G body r.1 r.2
/-- the state with an item of a walk on top -/
theorem ItOk.item {K : PySem.W.Frag} {G1 H0 H H' : Hp} {J : It} {ds : List D} {W : List (T × V)} {ts : List T} {vs : List V} {env : Env} {σ : St} {i : Nat} {d : D} {x : V} (I : ItOk K G1 J ds) (S : OkS K G1 H0 W H ts vs env σ) (hd : ds[i]? = some d) (y : J.yld i H x H') :
    Same H H' ∧ OkS K G1 H0 W H' (.p d :: ts) (x :: vs) env σ := by
  rcases I.yld i H x H' d S.same hd y with ⟨rfl, h⟩ | ⟨p, xs, es, hp, rfl, rfl, rfl, h⟩
  · exact ⟨Same.refl _, S.pushG h⟩
  · have S2 := (S.pushGs h).newT (by rw [List.length_map]; exact h.len) hp
    rw [mkTup_p] at S2
    exact ⟨same_upd hp, S2⟩
theorem ds_for {X : Cx} {tg iter : Expr} {body : List Stmt} {wi : TI} {f : IF} {g : TG} {G : GF} {tb : TS} {F : SF} {pos : Pos} {sl sl2 : List Nat} (hp : PassesOwn (model X.prog X.w) X.A X.env X.xe) (hc : X.calm = true) (hi : DI X tg iter wi f) (hg : DG X tg g G sl) (hb : DSs X body tb F sl2)
    (hs : ∀ x, foldedSetIterable iter X.env x = pure x := by intro _; rfl) : DS X (.For tg iter body [] pos) (tFor wi g tb) (sFor f G F) (sl ++ sl2) := by
  refine ⟨ps_for hp hc hi.pi hg.pg hb.ps hs, ?_⟩
  intro G0 H0 H ts vs env σ fl env' S e D q
  obtain ⟨⟨ds, e1⟩, g1, g2⟩ := obind e
  refine hi.ok _ _ _ _ _ _ _ _ _ _ S g1 _ fun J H1 G1 s1 gst I S1 => ?_
  refine ⟨fun i m σ2 H => m = ds.length - i ∧ i ≤ ds.length ∧ Dif (sl ++ sl2) σ σ2 ∧ ∃ env, OkS X.K G1 H0 [] H ts vs env σ2 ∧ loopD G F (ds.drop i) env = some (fl, env'), ⟨ds.length, by simp, Nat.zero_le _, .rfl', e1, S1, by simpa using g2⟩, ?_⟩
  rintro i m σ2 H2 ⟨rfl, hle, df, env2, S2, hl⟩
  by_cases hlt : i < ds.length
  · refine .inr ⟨I.go i H2 S2.same hlt, fun σ' H' => i + 1 ≤ ds.length ∧ Dif (sl ++ sl2) σ σ' ∧ ∃ env, OkS X.K G1 H0 [] H' ts vs env σ' ∧ loopD G F (ds.drop (i + 1)) env = some (fl, env'), fun σ' H' ⟨h1, h2⟩ => ⟨ds.length - (i + 1), by omega, rfl, h1, h2⟩, fun x H3 y => ?_⟩
    obtain ⟨s3, S3⟩ := I.item S2 (List.getElem?_eq_getElem hlt) y
    rw [List.drop_eq_getElem_cons hlt] at hl
    obtain ⟨e2, l1, l2⟩ := obind hl
    obtain ⟨⟨fl2, e3⟩, l3, l4⟩ := obind l2
    refine hg.ok _ _ _ _ _ _ _ _ _ _ _ S3 l1 _ fun σ' S' f1 => ?_
    refine hb.ok _ _ _ _ _ _ _ _ _ S' l3 _ ?_
    cases fl2 with
    | nx => exact fun H' σ4 S4 f2 => ⟨hlt, df.two (f1.tr f2), e3, S4, l4⟩
    | ct => exact fun H' σ4 S4 f2 => ⟨hlt, df.two (f1.tr f2), e3, S4, l4⟩
    | bk => cases l4; exact fun H' σ4 S4 f2 => q H' σ4 (S4.back gst) (df.two (f1.tr f2))
    | rt t => cases l4; exact fun v H' σ' S4 f2 => q v H' σ' (S4.back gst) (df.two (f1.tr f2))
  · have hi' : i = ds.length := by omega
    subst hi'
    rw [List.drop_length] at hl
    cases hl
    exact .inl ⟨I.stop H2 S2.same, q H2 σ2 (S2.back gst) df⟩
/-- over a list -/
def iL (f : EF) : IF := fun env => (f env).bind fun r => match r.1 with | .p (.lst ds) => some (ds, r.2) | _ => none
def iTp (f : EF) : IF := fun env => (f env).bind fun r => match r.1 with | .p (.tup ds) => some (ds, r.2) | _ => none
theorem itOk_l {K : PySem.W.Frag} {G1 : Hp} {a : Addr} {ds : List D} {xs : List V} (h : SqL K G1 a xs) (hr : RpDs K G1 ds xs) : ItOk K G1 (Itl K a) ds where
  go := fun i H s hi => ⟨xs, xs[i]'(by rw [hr.len]; exact hi), s.seq h, List.getElem?_eq_getElem _⟩
  stop := fun H s => ⟨xs, s.seq h, by rw [hr.len]; exact Nat.le_refl _⟩
  yld := fun i H x H' d s hd y => by
    obtain ⟨e, y⟩ := y
    obtain ⟨v, h1, h2⟩ := hr.get hd
    have := y xs (s.seq h)
    rw [h1] at this
    cases this
    exact .inl ⟨e, h2⟩
theorem itOk_t {K : PySem.W.Frag} {G1 : Hp} {a : Addr} {ds : List D} {xs : List V} (h : SqT K G1 a xs) (hr : RpDs K G1 ds xs) : ItOk K G1 (Itt K a) ds where
  go := fun i H s hi => ⟨xs, xs[i]'(by rw [hr.len]; exact hi), Same.sqT s h, List.getElem?_eq_getElem _⟩
  stop := fun H s => ⟨xs, Same.sqT s h, by rw [hr.len]; exact Nat.le_refl _⟩
  yld := fun i H x H' d s hd y => by
    obtain ⟨e, y⟩ := y
    obtain ⟨v, h1, h2⟩ := hr.get hd
    have := y xs (Same.sqT s h)
    rw [h1] at this
    cases this
    exact .inl ⟨e, h2⟩
theorem di_list {X : Cx} {tg e : Expr} {te : TE} {f : EF} (h : DT X e te f) : DI X tg e (iList X.K te) (iL f) := by
  refine ⟨pi_list h.pe, ?_⟩
  intro G0 H0 W H ts vs env σ ds env' S g R r
  obtain ⟨⟨t, e1⟩, g1, g2⟩ := obind g
  cases t with
  | p d =>
    cases d with
    | lst ds' =>
      cases g2
      refine h.ok _ _ _ _ _ _ _ _ _ _ S g1 _ fun v H1 s1 S1 => ?_
      obtain ⟨G1, gst, sG, ⟨a, xs, e1, e2, e3⟩, S2⟩ := S1.fixTop
      exact ⟨a, e1, ⟨xs, sG.seq (.inl e2)⟩, r _ _ G1 s1 gst (itOk_l (.inl e2) e3) S2⟩
    | _ => cases g2
  | _ => cases g2
theorem di_tup {X : Cx} {tg e : Expr} {te : TE} {f : EF} (h : DT X e te f) : DI X tg e (iTup X.K te) (iTp f) := by
  refine ⟨pi_tup h.pe, ?_⟩
  intro G0 H0 W H ts vs env σ ds env' S g R r
  obtain ⟨⟨t, e1⟩, g1, g2⟩ := obind g
  cases t with
  | p d =>
    cases d with
    | tup ds' =>
      cases g2
      refine h.ok _ _ _ _ _ _ _ _ _ _ S g1 _ fun v H1 s1 S1 => ?_
      obtain ⟨G1, gst, sG, ⟨a, xs, e1, e2, e3⟩, S2⟩ := S1.fixTop
      exact ⟨a, e1, ⟨xs, tup_seq sG e2⟩, r _ _ G1 s1 gst (itOk_t (tup_sq e2) e3) S2⟩
    | _ => cases g2
  | _ => cases g2
/-- range(..) -/
def rngD (lo : Int) (n : Nat) : List D := (List.range n).map fun (k : Nat) => D.int (lo + (k : Int))
theorem itOk_r {K : PySem.W.Frag} {G1 : Hp} {lo : Int} {n : Nat} : ItOk K G1 (Itr lo n) (rngD lo n) where
  go := fun i H s hi => by show i < n; simpa [rngD] using hi
  stop := fun H s => by show n ≤ _; simp [rngD]
  yld := fun i H x H' d s hd y => by
    obtain ⟨e, y⟩ := y
    refine .inl ⟨e, ?_⟩
    by_cases hi : i < n
    · simp [rngD, hi] at hd
      subst hd
      exact y
    · simp [rngD, hi] at hd
def iR1 (f : AF) : IF := fun env => (f env).bind fun r => match r.1 with
  | [.p (.int j)] => if j < 4611686018427387904 ∧ -4611686018427387904 ≤ j then some (rngD 0 j.toNat, r.2) else none
  | _ => none
def iR2 (f : AF) : IF := fun env => (f env).bind fun r => match r.1 with
  | [.p (.int i), .p (.int j)] => if (i < 4611686018427387904 ∧ -4611686018427387904 ≤ i) ∧ (j < 4611686018427387904 ∧ -4611686018427387904 ≤ j) then some (rngD i (j - i).toNat, r.2) else none
  | _ => none
theorem di_range1 {X : Cx} {tg a : Expr} {ta : TA} {f : AF} {p pos : Pos} (hg : Gl X "range") (hm : X.mg "range" = none) (h : DA X [a] ta f) (hs : starEach [a] X.env = [(false, eval a X.env)] := by rfl) : DI X tg (.Call (.Name "range" p) [a] [] pos) (iRng1 ta) (iR1 f) := by
  refine ⟨pi_range1 hg hm h.pa hs, ?_⟩
  intro G0 H0 W H ts vs env σ ds env' S g R r
  obtain ⟨⟨us, e1⟩, g1, g2⟩ := obind g
  refine h.ok _ _ _ _ _ _ _ _ _ _ S g1 _ fun ws H1 s1 hl S1 => ?_
  dsimp only at g2
  split at g2
  · rename_i j
    by_cases hj : j < 4611686018427387904 ∧ -4611686018427387904 ≤ j
    · rw [if_pos hj] at g2
      cases g2
      cases ws with
      | nil => simp at hl
      | cons w ws =>
        cases ws with
        | cons _ _ => simp at hl
        | nil =>
          have ew : w = .int j := S1.top
          obtain ⟨G1, gst, sG, S2⟩ := OkS.fix (show OkS X.K G0 H0 W H1 ts vs _ σ from S1.pop)
          exact ⟨j, by rw [ew], by omega, by omega, r _ _ G1 s1 gst itOk_r S2⟩
    · rw [if_neg hj] at g2; cases g2
  · cases g2
theorem di_range2 {X : Cx} {tg a b : Expr} {ta : TA} {f : AF} {p pos : Pos} (hg : Gl X "range") (hm : X.mg "range" = none) (h : DA X [a, b] ta f) (hs : starEach [a, b] X.env = [(false, eval a X.env), (false, eval b X.env)] := by rfl) (hs2 : starEach [b] X.env = [(false, eval b X.env)] := by rfl) :
    DI X tg (.Call (.Name "range" p) [a, b] [] pos) (iRng2 ta) (iR2 f) := by
  refine ⟨pi_range2 hg hm h.pa hs hs2, ?_⟩
  intro G0 H0 W H ts vs env σ ds env' S g R r
  obtain ⟨⟨us, e1⟩, g1, g2⟩ := obind g
  refine h.ok _ _ _ _ _ _ _ _ _ _ S g1 _ fun ws H1 s1 hl S1 => ?_
  dsimp only at g2
  split at g2
  · rename_i i j
    by_cases hj : (i < 4611686018427387904 ∧ -4611686018427387904 ≤ i) ∧ (j < 4611686018427387904 ∧ -4611686018427387904 ≤ j)
    · rw [if_pos hj] at g2
      cases g2
      match ws, hl with
      | [w1, w2], _ =>
        have e1 : w1 = .int i := S1.top
        have e2 : w2 = .int j := (show OkS X.K G0 H0 W H1 (.p (.int j) :: ts) (w2 :: vs) _ σ from S1.pop).top
        obtain ⟨G1, gst, sG, S2⟩ := OkS.fix (show OkS X.K G0 H0 W H1 ts vs _ σ from S1.pop.pop)
        exact ⟨i, j, by rw [e1, e2], ⟨by omega, by omega, by omega, by omega⟩, r _ _ G1 s1 gst itOk_r S2⟩
    · rw [if_neg hj] at g2; cases g2
  · cases g2
end DL

set_option Elab.async false
set_option linter.all false
set_option maxRecDepth 100000
namespace DL
open PySem PySem.Spec PyProof.Rows L2

/-! ### defs -/
/-- a def's promise by a function on data: what it hands back is new or stood in the data -/
def spD (n : Nat) (φ : List D → Option T) (K : PySem.W.Frag) : Sp := fun vs H Q _ => ∃ ds t G, ds.length = n ∧ φ ds = some t ∧ Same G H ∧ RpDs K G ds vs ∧ ∀ v G' H' o, Same G G' → Same G' H' → Same H H' → Rp K G' H' t v o → o.Nodup → (∀ a ∈ o, G' a = none ∧ H a = none) →
  (∀ a u, G' a = some u → G a ≠ none ∨ H a = none ∨ ∃ xs, u = .tup xs) → Q v H'
def startE (n : Nat) (ds : List D) : Env := ds.map (fun d => some (.p d)) ++ List.replicate (n - ds.length) none
def runF (n k : Nat) (F : SF) (ds : List D) : Option T := if ds.length = k then (F (startE n ds)).bind fun r => match r.1 with
  | .rt t => some t
  | .nx => some (.p .non)
  | _ => none
  else none
theorem rpE_start {K : PySem.W.Frag} {G H : Hp} {m : Nat} : ∀ {ds : List D} {vs : List V}, RpDs K G ds vs → RpE K G H (ds.map (fun d => some (.p d)) ++ List.replicate m none) (vs.map some ++ List.replicate m none) []
  | [], vs, h => by
    rw [show vs = [] from h]
    show RpE K G H (List.replicate m none) (List.replicate m none) []
    induction m with
    | zero => exact ⟨rfl, rfl⟩
    | succ m ih => exact ⟨none, _, rfl, ih⟩
  | d :: ds, vs, ⟨v, r, h1, h2, h3⟩ => by
    subst h1
    exact ⟨v, _, [], [], rfl, ⟨h2, rfl⟩, rpE_start h3, rfl⟩
theorem L2_start {N : List Str} {vs : List V} : start N vs = vs.map some ++ List.replicate (N.length - vs.length) none := rfl
section
variable {P : Program} {w : World} {K : PySem.W.Frag} {mg : Str → Option Value} {base : Heap}
theorem okD {x qual : Str} {st : Stmt} {f : Addr} {fd : FuncData} {N ps : List Str} {k : Nat} {n np : Nat} {Fb : SF} (F : Fun K x qual st f fd) (S : FnScope N ps (defScope st)) (hn : N.length = n) (hnp : ps.length = np)
    (hbody : ∀ (cdv : Value) (A : Around) (outer : List PySem.Env) (s : Shared) (H : Hp) (E : XK), Room k (A.deeper (envOfC qual (defScope st) s.heap.objs.size f cdv)) →
      ∃ t sl, DSs (cxOf CX0 P w K mg base N qual (defScope st) f cdv A outer s H E).nox (defBody st) t Fb sl) : FnOk P w K mg base CX0 (k + 1) f fd ps (spD np (runF n np Fb) K) := by
  refine F.ok S (fun vs H Q E h => ?_) (fun cdv A outer s H vs Q E hr h => ?_)
  · obtain ⟨ds, t, G, h1, _, _, h2, _⟩ := h
    rw [h2.len, h1, hnp]
  · obtain ⟨ds, t, G, h1, h2, h3, h4, q⟩ := h
    obtain ⟨tr, sl, hd⟩ := hbody cdv A outer s H E hr
    refine ⟨tr, hd.ps, ?_⟩
    unfold runF at h2
    rw [if_pos h1] at h2
    obtain ⟨⟨fl, e1⟩, g1, g2⟩ := obind h2
    have S0 : OkS K G H [] H [] [] (startE n ds) (start N vs) := by
      refine ⟨G, [], [], ⟨rfl, rfl⟩, ?_, by simp, fun a ha => by simp at ha, Same.refl _, h3, Same.refl _, fun a o e => .inl (by rw [e]; simp), fun q hq => by cases hq⟩
      rw [L2_start, hn, h4.len]
      exact rpE_start h4
    refine hd.ok G H H [] [] _ _ fl e1 S0 g1 _ ?_
    have fin : ∀ (u : T) (v : V) (H' : Hp) (env : Env) (σ : St), OkS K G H [] H' [u] [v] env σ → u = t → Q v H' := fun u v H' env σ S1 e => by
      subst e
      obtain ⟨G', ot, oe, s1⟩ := S1
      obtain ⟨w, r, o1, o2, a1, a2, a3, a4⟩ := s1.tmp
      cases a1
      have a5 : o2 = [] := a3.2
      subst a5
      rw [List.append_nil] at a4
      subst a4
      exact q v G' H' ot s1.g0 s1.gh s1.h0 a2 (List.nodup_append.mp s1.nd).1 (fun a ha => s1.fr a (List.mem_append_left _ ha)) s1.nw
    cases fl with
    | nx =>
      have e : T.p .non = t := Option.some.inj g2
      exact fun H' σ' S1 _ => fin _ _ H' e1 σ' (S1.scal (z := .non) (u := .non) fun _ => rfl) e
    | rt u =>
      have e : u = t := Option.some.inj g2
      exact fun v H' σ' S1 _ => fin _ _ H' e1 σ' S1 e
    | bk => cases g2
    | ct => cases g2
end
/-! ### calls -/
def eCall (φ : List D → Option T) (fa : AF) : EF := fun env => (fa env).bind fun r => (allP r.1).bind fun ds => (φ ds).map fun t => (t, r.2)
theorem OkS.called {K : PySem.W.Frag} {G0 H0 H H' G G' : Hp} {W : List (T × V)} {ts : List T} {vs : List V} {env : Env} {σ : St} {ot oe o : List Addr} {t : T} {v : V} (s : St0 K G0 H0 W G H ts vs env σ ot oe)
    (h1 : Same G G') (h2 : Same G' H') (h3 : Same H H') (h4 : Rp K G' H' t v o) (h5 : o.Nodup) (h6 : ∀ a ∈ o, G' a = none ∧ H a = none) (h7 : ∀ a u, G' a = some u → G a ≠ none ∨ H a = none ∨ ∃ xs, u = .tup xs) : OkS K G0 H0 W H' (t :: ts) (v :: vs) env σ := by
  have all : ∀ a ∈ ot ++ oe, ∃ u, H a = some u ∧ ∀ xs, u ≠ .tup xs := fun a ha => by
    rcases List.mem_append.mp ha with ha | ha
    · exact s.tmp.there _ a ha
    · exact s.env.there _ a ha
  have kp : ∀ a ∈ ot ++ oe, H' a = H a := fun a ha => by
    obtain ⟨u, e, _⟩ := all a ha
    rw [e, h3 a u e]
  refine ⟨G', o ++ ot, oe, ⟨v, vs, o, ot, rfl, h4, s.tmp.mono h1 _ (fun a ha => kp a (List.mem_append_left _ ha)), rfl⟩, s.env.mono h1 _ (fun a ha => kp a (List.mem_append_right _ ha)), ?_, fun a ha => ?_, s.g0.trans h1, h2, s.h0.trans h3, fun a u e => ?_, fun q hq => ?_⟩
  · rw [List.append_assoc]
    refine List.nodup_append.mpr ⟨h5, s.nd, fun a ha b hb e => ?_⟩
    subst e
    obtain ⟨u, e, _⟩ := all a hb
    rw [(h6 a ha).2] at e; cases e
  · rw [List.append_assoc] at ha
    rcases List.mem_append.mp ha with ha | ha
    · exact ⟨(h6 a ha).1, Same.none s.h0 (h6 a ha).2⟩
    · refine ⟨?_, (s.fr a ha).2⟩
      cases q : G' a with
      | none => rfl
      | some u =>
        obtain ⟨u', e, ne⟩ := all a ha
        rcases h7 a u q with z | z | ⟨xs, z⟩
        · exact absurd (s.fr a ha).1 z
        · rw [z] at e; cases e
        · have := h2 a u q
          rw [h3 a u' e] at this
          cases this
          exact absurd z (ne xs)
  · rcases h7 a u e with z | z | z
    · cases q : G a with
      | none => exact absurd q z
      | some u' =>
        have := h1 a u' q
        rw [e] at this; cases this
        exact s.nw a u q
    · exact .inr (.inl (Same.none s.h0 z))
    · exact .inr (.inr z)
  · obtain ⟨o', h⟩ := s.vw q hq
    refine ⟨o', h.mono h1 _ fun a ha => ?_⟩
    obtain ⟨u, e, _⟩ := h.there _ a ha
    rw [e, h3 a u e]
theorem ev_call {K : PySem.W.Frag} {n : Nat} {φ : List D → Option T} {ta : TA} {fa : AF} (hφ : ∀ ds t, φ ds = some t → ds.length = n) (ha : EvA K ta fa) : EvT K (tCall (spD n φ K) [] E0 ta) (eCall φ fa) := by
  intro G0 H0 W H ts vs env σ t env' S g Q q
  obtain ⟨⟨us, e1⟩, g1, g2⟩ := obind g
  obtain ⟨ds, g3, g4⟩ := obind g2
  obtain ⟨t', g5, g6⟩ := omap g4
  cases g6
  have eu := allP_eq g3
  have eu : us = ds.map T.p := eu
  subst eu
  refine ha _ _ _ _ _ _ _ _ _ _ S g1 _ fun ws H1 s1 hl S1 => ?_
  obtain ⟨G, ot, oe, s⟩ := S1
  obtain ⟨o1, o2, k1, k2, k3⟩ := s.tmp.split hl
  obtain ⟨k4, k5⟩ := rpDs_of k1
  subst k5
  have k3 : ot = o2 := k3
  subst k3
  have s' : St0 K G0 H0 W G H1 ts vs _ σ ot oe := ⟨k2, s.env, s.nd, s.fr, s.g0, s.gh, s.h0, s.nw, s.vw⟩
  refine ⟨ds, t, G, hφ _ _ g5, g5, s.gh, by rw [List.append_nil]; exact k4, fun v G' H' o h1 h2 h3 h4 h5 h6 h7 => ?_⟩
  exact q v H' (s1.trans h3) (OkS.called s' h1 h2 h3 h4 h5 h6 h7)
theorem runF_len {n k : Nat} {F : SF} {ds : List D} {t : T} (h : runF n k F ds = some t) : ds.length = k := by
  unfold runF at h
  by_cases hl : ds.length = k
  · exact hl
  · rw [if_neg hl] at h; cases h
section
variable {X : Cx} {k : Nat} {f : Addr} {fd : FuncData} {ps : List Str} {n : Nat} {φ : List D → Option T} {x : Str} {p pos : Pos} {e : Expr} {es : List Expr} {ta : TA} {fa : AF}
theorem dt_call (hφ : ∀ ds t, φ ds = some t → ds.length = n) (F : FnOk X.prog X.w X.K X.mg X.base CX0 k f fd ps (spD n φ X.K)) (hr : Room k X.A) (hg : Gl X x) (hm : X.mg x = some (.ref f)) (hk : PySem.W.keepIn X.K (.ref f) = true) (hb : Binds X.K fd ps [])
    (ha : DA X (e :: es) ta fa) (hdb : (x == ("__debug__" : Str)) = false := by decide) (he : starEach (e :: es) X.env = (false, eval e X.env) :: starEach es X.env := by rfl) (hpl : (backTo pos (starEach es X.env)).any (·.1) = false := by rfl) :
    DT X (.Call (.Name x p) (e :: es) [] pos) (tCall (spD n φ X.K) [] E0 ta) (eCall φ fa) := ⟨pe_call F hr hg hm hk hb .nil pass0 ha.pa hdb he hpl, ev_call hφ ha.ok⟩
end
end DL

set_option Elab.async false
set_option linter.all false
set_option maxRecDepth 100000
namespace DL
open PySem PySem.Spec PyProof.Rows L2

/-! ### data as values, equality -/
def toV : D → Option V
  | .non => some .non
  | .bl b => some (.bl b)
  | .int i => some (.int i)
  | .str s => some (.str s)
  | _ => none
mutual
def toPy : D → Option PyData
  | .non => some .none
  | .bl b => some (.bool b)
  | .int i => some (.int i)
  | .str s => some (.str s)
  | .lst ds => (toPys ds).map .list
  | .tup ds => (toPys ds).map .tuple
  | .dic _ => none
  | _ => none
def toPys : List D → Option (List PyData)
  | [] => some []
  | d :: ds => (toPy d).bind fun p => (toPys ds).map (p :: ·)
end
theorem toV_rp {K : PySem.W.Frag} {G : Hp} {d : D} {v w : V} (h : toV d = some v) (r : RpD K G d w) : w = v := by
  cases d <;> simp only [toV, Option.some.injEq, reduceCtorEq] at h
  all_goals (subst h; exact r)
mutual
theorem toPy_rp {K : PySem.W.Frag} {G : Hp} : ∀ {d : D} {p : PyData} {v : V}, toPy d = some p → RpD K G d v → Dp K G v p
  | .non, p, v, h, r => by cases h; rw [show v = _ from r]; exact .non
  | .bl _, p, v, h, r => by cases h; rw [show v = _ from r]; exact .bl _
  | .int _, p, v, h, r => by cases h; rw [show v = _ from r]; exact .int _
  | .str _, p, v, h, r => by cases h; rw [show v = _ from r]; exact .str _
  | .lst ds, p, v, h, ⟨a, vs, h1, h2, h3⟩ => by
    obtain ⟨q, g1, g2⟩ := omap (show (toPys ds).map PyData.list = some p from h)
    subst g2; subst h1
    exact .lst (.inl h2) (toPys_rp g1 h3)
  | .tup ds, p, v, h, ⟨a, vs, h1, h2, h3⟩ => by
    obtain ⟨q, g1, g2⟩ := omap (show (toPys ds).map PyData.tuple = some p from h)
    subst g2; subst h1
    exact .tup (tup_sq h2) (toPys_rp g1 h3)
  | .dic _, p, v, h, r => by cases h
  | .dit _, p, v, h, r => by cases h
  | .obj _ _, p, v, h, r => by cases h
  | .al _, p, v, h, r => by cases h
theorem toPys_rp {K : PySem.W.Frag} {G : Hp} : ∀ {ds : List D} {ps : List PyData} {vs : List V}, toPys ds = some ps → RpDs K G ds vs → DpAll K G vs ps
  | [], ps, vs, h, r => by cases h; rw [show vs = [] from r]; exact .nil
  | d :: ds, ps, vs, h, ⟨v, r, h1, h2, h3⟩ => by
    obtain ⟨p, g1, g2⟩ := obind (show (toPy d).bind (fun p => (toPys ds).map (p :: ·)) = some ps from h)
    obtain ⟨qs, g3, g4⟩ := omap g2
    subst g4; subst h1
    exact .cons (toPy_rp g1 h2) (toPys_rp g3 h3)
end
def eqDeep (a b : D) : Option Bool := (toPy a).bind fun p => (toPy b).bind fun q => if SeqAt.shaped p && SeqAt.shaped q then some (PyData.eqv p q) else none
/-- == of data -/
def eqQ (a b : D) : Option Bool := match toV a, toV b with
  | some v, some w => if scal v w then some (decide (v = w)) else none
  | _, _ => eqDeep a b
def rEqA (K : PySem.W.Frag) : R2 := fun x y H Q => rEq x y H Q ∨ rEqD K x y H Q
def rNeA (K : PySem.W.Frag) : R2 := fun x y H Q => rNe x y H Q ∨ rNeD K x y H Q
theorem OpR.or {X : Cx} {f : Value → Value → Sem Value} {r r' : R2} (h : OpR X f r) (h' : OpR X f r') : OpR X f (fun x y H Q => r x y H Q ∨ r' x y H Q) := by
  intro pins s σ H x y v u Q I rx ry q
  rcases q with q | q
  · exact h pins s σ H x y v u Q I rx ry q
  · exact h' pins s σ H x y v u Q I rx ry q
theorem op_eqA {X : Cx} (hu : X.A.units + 64 < cLine) : OpR X (compareOp .Eq) (rEqA X.K) := OpR.or op_eq (op_eqD hu)
theorem op_neA {X : Cx} (hu : X.A.units + 64 < cLine) : OpR X (compareOp .NotEq) (rNeA X.K) := OpR.or op_ne (op_neD hu)
theorem eqQ_r {K : PySem.W.Frag} {H : Hp} {a b : D} {c : Bool} {v w : V} {Q : VK} (h : eqQ a b = some c) (ha : RpD K H a v) (hb : RpD K H b w) (q : Q (.bl c) H) : rEqA K v w H Q := by
  have deep : eqDeep a b = some c → rEqA K v w H Q := fun h => by
    obtain ⟨p, h1, h2⟩ := obind h
    obtain ⟨p', h3, h4⟩ := obind h2
    by_cases hs : (SeqAt.shaped p && SeqAt.shaped p') = true
    · rw [if_pos hs] at h4
      cases h4
      rw [Bool.and_eq_true] at hs
      exact .inr ⟨p, p', toPy_rp h1 ha, toPy_rp h3 hb, hs.1, hs.2, q⟩
    · rw [if_neg hs] at h4; cases h4
  unfold eqQ at h
  split at h
  · rename_i v' w' e1 e2
    rw [toV_rp e1 ha, toV_rp e2 hb]
    by_cases hs : scal v' w' = true
    · rw [if_pos hs] at h; cases h; exact .inl ⟨hs, q⟩
    · rw [if_neg hs] at h; cases h
  · exact deep h
theorem neQ_r {K : PySem.W.Frag} {H : Hp} {a b : D} {c : Bool} {v w : V} {Q : VK} (h : eqQ a b = some c) (ha : RpD K H a v) (hb : RpD K H b w) (q : Q (.bl (!c)) H) : rNeA K v w H Q := by
  have deep : eqDeep a b = some c → rNeA K v w H Q := fun h => by
    obtain ⟨p, h1, h2⟩ := obind h
    obtain ⟨p', h3, h4⟩ := obind h2
    by_cases hs : (SeqAt.shaped p && SeqAt.shaped p') = true
    · rw [if_pos hs] at h4
      cases h4
      rw [Bool.and_eq_true] at hs
      exact .inr ⟨p, p', toPy_rp h1 ha, toPy_rp h3 hb, hs.1, hs.2, q⟩
    · rw [if_neg hs] at h4; cases h4
  unfold eqQ at h
  split at h
  · rename_i v' w' e1 e2
    rw [toV_rp e1 ha, toV_rp e2 hb]
    by_cases hs : scal v' w' = true
    · rw [if_pos hs] at h; cases h; exact .inl ⟨hs, q⟩
    · rw [if_neg hs] at h; cases h
  · exact deep h
/-- a comparison of two looked-at values -/
def eCmp (g : D → D → Option Bool) (fa fb : EF) : EF := fun env => (fa env).bind fun x => (fb x.2).bind fun y => (g x.1.toD y.1.toD).map fun c => (.p (.bl c), y.2)
def Cm2 (r : PySem.W.Frag → R2) (g : D → D → Option Bool) : Prop := ∀ (K : PySem.W.Frag) (H : Hp) (a b : D) (c : Bool) (v w : V) (Q : VK), g a b = some c → RpD K H a v → RpD K H b w → Q (.bl c) H → r K v w H Q
theorem ev_cmp {K : PySem.W.Frag} {r : PySem.W.Frag → R2} {g : D → D → Option Bool} {ta tb : TE} {fa fb : EF} (hr : Cm2 r g) (ha : EvV K ta fa) (hb : EvV K tb fb) : EvT K (tOp (r K) ta tb) (eCmp g fa fb) := by
  intro G0 H0 W H ts vs env σ t env' S e Q q
  obtain ⟨⟨x, e1⟩, h1, h2⟩ := obind e
  obtain ⟨⟨y, e2⟩, h3, h4⟩ := obind h2
  obtain ⟨c, h5, h6⟩ := omap h4
  cases h6
  refine ha _ _ _ _ _ _ _ _ _ _ S h1 _ fun v H1 s1 S1 => ?_
  refine hb _ _ _ _ _ _ _ _ _ _ S1 h3 _ fun w H2 s2 S2 => ?_
  exact hr K H2 _ _ c v w Q h5 (S2.see (q := (x, v)) (by simp)) (S2.see (q := (y, w)) (by simp)) (q _ H2 (s1.trans s2) (S2.unview.unview.scal fun _ => rfl))
theorem cm_eq : Cm2 rEqA eqQ := fun K H a b c v w Q h ha hb q => eqQ_r h ha hb q
def neQ (a b : D) : Option Bool := (eqQ a b).map (!·)
theorem cm_ne : Cm2 rNeA neQ := fun K H a b c v w Q h ha hb q => by
  obtain ⟨c', h1, h2⟩ := omap h
  subst h2
  exact neQ_r h1 ha hb q
def cmI (f : Int → Int → Bool) : D → D → Option Bool
  | .int i, .int j => some (f i j)
  | _, _ => none
theorem cm_int {f : Int → Int → Bool} : Cm2 (fun _ => rI0 fun i j => .bl (f i j)) (cmI f) := fun K H a b c v w Q h ha hb q => by
  unfold cmI at h
  split at h
  · rename_i i j
    cases h
    exact ⟨i, j, ha, hb, q⟩
  · cases h
def D.isNon : D → Bool
  | .non => true
  | _ => false
def D.isAl : D → Bool
  | .al _ => true
  | _ => false
theorem rp_non {K : PySem.W.Frag} {G : Hp} {d : D} {v : V} (hd : d.isAl = false) (r : RpD K G d v) : decide (v = .non) = d.isNon := by
  cases d with
  | non => rw [show v = _ from r]; rfl
  | bl b => rw [show v = _ from r]; rfl
  | int b => rw [show v = _ from r]; rfl
  | str b => rw [show v = _ from r]; rfl
  | lst b => obtain ⟨a, vs, h, _⟩ := r; rw [h]; rfl
  | tup b => obtain ⟨a, vs, h, _⟩ := r; rw [h]; rfl
  | dic b => obtain ⟨a, vs, h, _⟩ := r; rw [h]; rfl
  | dit b => obtain ⟨a, vs, h, _⟩ := r; rw [h]; rfl
  | obj n b => obtain ⟨a, C, dx, vs, h, _⟩ := r; rw [h]; rfl
  | al a => cases hd
def isN (a b : D) : Option Bool := match b with | .non => if a.isAl = true then none else some a.isNon | _ => none
theorem isN_some {a b : D} {c : Bool} (h : isN a b = some c) : b = .non ∧ a.isAl = false ∧ c = a.isNon := by
  cases b <;> simp only [isN, reduceCtorEq] at h
  by_cases q : a.isAl = true
  · rw [if_pos q] at h; cases h
  · rw [if_neg q] at h; cases h; exact ⟨rfl, by simpa using q, rfl⟩
def rIsA (_ : PySem.W.Frag) : R2 := fun x y H Q => y = .non ∧ Q (.bl (decide (x = .non))) H
def rIsNotA (_ : PySem.W.Frag) : R2 := fun x y H Q => y = .non ∧ Q (.bl (!decide (x = .non))) H
theorem op_isA {X : Cx} : OpR X (compareOp .Is) (rIsA X.K) := op_isN
theorem op_isNotA {X : Cx} : OpR X (compareOp .IsNot) (rIsNotA X.K) := op_notN
theorem cm_is : Cm2 rIsA isN := fun K H a b c v w Q h ha hb q => by
  obtain ⟨rfl, h1, rfl⟩ := isN_some h
  exact ⟨hb, by rw [rp_non h1 ha]; exact q⟩
def isNotN (a b : D) : Option Bool := (isN a b).map (!·)
theorem cm_isNot : Cm2 rIsNotA isNotN := fun K H a b c v w Q h ha hb q => by
  obtain ⟨c', h1, h2⟩ := omap h
  subst h2
  obtain ⟨rfl, h3, rfl⟩ := isN_some h1
  exact ⟨hb, by rw [rp_non h3 ha]; exact q⟩
/-- in: one sign in a text, a text in a text, a flat thing in a list or tuple -/
def toVs : List D → Option (List V)
  | [] => some []
  | d :: ds => (toV d).bind fun v => (toVs ds).map (v :: ·)
theorem toVs_rp {K : PySem.W.Frag} {G : Hp} : ∀ {ds : List D} {vs ws : List V}, toVs ds = some vs → RpDs K G ds ws → ws = vs
  | [], vs, ws, h, r => by cases h; exact r
  | d :: ds, vs, ws, h, ⟨v, r, h1, h2, h3⟩ => by
    obtain ⟨p, g1, g2⟩ := obind (show (toV d).bind (fun p => (toVs ds).map (p :: ·)) = some vs from h)
    obtain ⟨qs, g3, g4⟩ := omap g2
    subst g4; subst h1
    rw [toV_rp g1 h2, toVs_rp g3 h3]
def inFlat (a : D) (ds : List D) : Option Bool := (toV a).bind fun v => (toVs ds).bind fun vs => if flatV v && vs.all flatV then some (inV v vs) else none
def inStr (a b : Str) : Bool := match a.cps.toList with
  | [c] => decide (c ∈ b.cps.toList)
  | _ => !(Builtin.Str.occurrences b a 0 b.length 1).isEmpty
def inQ (a b : D) : Option Bool := match a, b with
  | .str s, .str t => some (inStr s t)
  | a, .lst ds => inFlat a ds
  | a, .tup ds => inFlat a ds
  | _, _ => none
def notInQ (a b : D) : Option Bool := (inQ a b).map (!·)
def rInA (K : PySem.W.Frag) : R2 := fun x y H Q => (∃ (c : Nat) (z : Str), x = .str ⟨#[c]⟩ ∧ y = .str z ∧ Q (.bl (decide (c ∈ z.cps.toList))) H) ∨ (∃ i j, x = .str i ∧ y = .str j ∧ Q (.bl (!(Builtin.Str.occurrences j i 0 j.length 1).isEmpty)) H) ∨ rIn K false x y H Q
def rNotInA (K : PySem.W.Frag) : R2 := fun x y H Q => (∃ (c : Nat) (z : Str), x = .str ⟨#[c]⟩ ∧ y = .str z ∧ Q (.bl (!decide (c ∈ z.cps.toList))) H) ∨ (∃ i j, x = .str i ∧ y = .str j ∧ Q (.bl (!(!(Builtin.Str.occurrences j i 0 j.length 1).isEmpty))) H) ∨ rIn K true x y H Q
theorem op_inA {X : Cx} : OpR X (compareOp .In) (rInA X.K) := OpR.or op_in_sign (OpR.or op_in_str op_in_seq)
theorem op_notInA {X : Cx} : OpR X (compareOp .NotIn) (rNotInA X.K) := OpR.or op_notIn_sign (OpR.or op_notIn_str op_notIn_seq)
theorem str_one {a : Str} {c : Nat} (h : a.cps.toList = [c]) : a = ⟨#[c]⟩ := by
  obtain ⟨⟨l⟩⟩ := a
  have h : l = [c] := h
  subst h; rfl
theorem cm_in : Cm2 rInA inQ := fun K H a b c v w Q h ha hb q => by
  have fl : ∀ ds : List D, inFlat a ds = some c → (∃ p xs, w = .ref p ∧ (SqL K H p xs ∨ SqT K H p xs) ∧ RpDs K H ds xs) → rInA K v w H Q := fun ds h ⟨p, xs, h1, h2, h3⟩ => by
    obtain ⟨v', g1, g2⟩ := obind h
    obtain ⟨vs, g3, g4⟩ := obind g2
    by_cases hf : (flatV v' && vs.all flatV) = true
    · rw [if_pos hf] at g4
      cases g4
      rw [Bool.and_eq_true] at hf
      have e1 := toV_rp g1 ha
      have e2 := toVs_rp g3 h3
      subst e1; subst e2
      exact .inr (.inr ⟨p, xs, h1, h2, hf.1, hf.2, q⟩)
    · rw [if_neg hf] at g4; cases g4
  unfold inQ at h
  split at h
  · rename_i s t
    cases h
    unfold inStr at q
    split at q
    · rename_i c e
      rw [show v = _ from ha, str_one e]
      exact .inl ⟨c, t, rfl, hb, q⟩
    · exact .inr (.inl ⟨s, t, ha, hb, q⟩)
  · rename_i ds
    obtain ⟨p, xs, h1, h2, h3⟩ := hb
    exact fl ds h ⟨p, xs, h1, .inl (.inl h2), h3⟩
  · rename_i ds
    obtain ⟨p, xs, h1, h2, h3⟩ := hb
    exact fl ds h ⟨p, xs, h1, .inr (tup_sq h2), h3⟩
  · cases h
theorem cm_notIn : Cm2 rNotInA notInQ := fun K H a b c v w Q h ha hb q => by
  obtain ⟨c', h0, h2⟩ := omap h
  clear h
  subst h2
  have h := h0
  clear h0
  have fl : ∀ ds : List D, inFlat a ds = some c' → (∃ p xs, w = .ref p ∧ (SqL K H p xs ∨ SqT K H p xs) ∧ RpDs K H ds xs) → rNotInA K v w H Q := fun ds h ⟨p, xs, h1, h2, h3⟩ => by
    obtain ⟨v', g1, g2⟩ := obind h
    obtain ⟨vs, g3, g4⟩ := obind g2
    by_cases hf : (flatV v' && vs.all flatV) = true
    · rw [if_pos hf] at g4
      cases g4
      rw [Bool.and_eq_true] at hf
      have e1 := toV_rp g1 ha
      have e2 := toVs_rp g3 h3
      subst e1; subst e2
      exact .inr (.inr ⟨p, xs, h1, h2, hf.1, hf.2, q⟩)
    · rw [if_neg hf] at g4; cases g4
  unfold inQ at h
  split at h
  · rename_i s t
    cases h
    unfold inStr at q
    split at q
    · rename_i c e
      rw [show v = _ from ha, str_one e]
      exact .inl ⟨c, t, rfl, hb, q⟩
    · exact .inr (.inl ⟨s, t, ha, hb, q⟩)
  · rename_i ds
    obtain ⟨p, xs, h1, h2, h3⟩ := hb
    exact fl ds h ⟨p, xs, h1, .inl (.inl h2), h3⟩
  · rename_i ds
    obtain ⟨p, xs, h1, h2, h3⟩ := hb
    exact fl ds h ⟨p, xs, h1, .inr (tup_sq h2), h3⟩
  · cases h

/-! ### tests -/
def cT (f : EF) : CF := fun env => (f env).bind fun r => match r.1 with | .p (.bl b) => some (b, r.2) | _ => none
theorem EvT.test {K : PySem.W.Frag} {te : TE} {f : EF} (h : EvT K te f) : EvC K (tTest te) (cT f) := by
  intro G0 H0 W H ts vs env σ c env' S e Q q
  obtain ⟨⟨t, e1⟩, h1, h2⟩ := obind e
  cases t with
  | p d =>
    cases d with
    | bl b =>
      cases h2
      exact h _ _ _ _ _ _ _ _ _ _ S h1 _ fun v H' s S' => ⟨c, S'.top, q H' s S'.pop⟩
    | _ => cases h2
  | _ => cases h2
def cNot (c : CF) : CF := fun env => (c env).map fun r => (!r.1, r.2)
def cAnd (c d : CF) : CF := fun env => (c env).bind fun r => if r.1 then d r.2 else some (false, r.2)
def cOr (c d : CF) : CF := fun env => (c env).bind fun r => if r.1 then some (true, r.2) else d r.2
structure DW (X : Cx) (e : Expr) (tc : TT) (f : CF) : Prop where
  pt : PW X e tc
  ok : EvC X.K tc f
def eIf (c : CF) (fa fb : EF) : EF := fun env => (c env).bind fun r => if r.1 then fa r.2 else fb r.2
section
variable {X : Cx} {a b e : Expr} {es rest : List Expr} {ta tb te : TE} {tc td : TT} {fa fb f : EF} {c d : CF} {pos : Pos}
theorem dc_val (h : DT X e te f) (he : ∀ whole, isTrue e X.env whole = (do let v ← whole; standAt e.pos; holding [v] (truthy v)) := by intro _; rfl) : DC X e (tB te) (cT f) := ⟨pt_val h.pe he, h.ok.test⟩
theorem dt_cmp {op : CmpOp} {r : PySem.W.Frag → R2} {g : D → D → Option Bool} (ho : OpR X (compareOp op) (r X.K)) (hr : Cm2 r g) (ha : DV X a ta fa) (hb : DV X b tb fb) (hm : behindInMarks op b = false) : DT X (.Compare a [op] [b] pos) (tOp (r X.K) ta tb) (eCmp g fa fb) := ⟨pe_cmpR ho ha.pe hb.pe hm, ev_cmp hr ha.ok hb.ok⟩
theorem dc_cmp {op : CmpOp} {r : PySem.W.Frag → R2} {g : D → D → Option Bool} (ho : OpR X (compareOp op) (r X.K)) (hr : Cm2 r g) (ha : DV X a ta fa) (hb : DV X b tb fb) (hm : behindInMarks op b = false) : DC X (.Compare a [op] [b] pos) (tTest (tOp (r X.K) ta tb)) (cT (eCmp g fa fb)) := ⟨pt_cmpR ho ha.pe hb.pe hm, (ev_cmp hr ha.ok hb.ok).test⟩
theorem dc_not (h : DC X a tc c) : DC X (.UnaryOp .Not a pos) (tNot tc) (cNot c) := by
  refine ⟨pt_not h.pt, ?_⟩
  intro G0 H0 W H ts vs env σ k env' S e Q q
  obtain ⟨⟨b, e1⟩, h1, h2⟩ := omap e
  cases h2
  exact h.ok _ _ _ _ _ _ _ _ _ _ S h1 _ fun H' s S' => q H' s S'
theorem dw_and1 (h : DC X a tc c) : DW X (.BoolOp .And [a] pos) tc c := ⟨pw_and1 h.pt, h.ok⟩
theorem dw_or1 (h : DC X a tc c) : DW X (.BoolOp .Or [a] pos) tc c := ⟨pw_or1 h.pt, h.ok⟩
theorem dw_and (h : DC X a tc c) (h2 : DW X (.BoolOp .And (b :: rest) pos) td d) : DW X (.BoolOp .And (a :: b :: rest) pos) (tAnd tc td) (cAnd c d) := by
  refine ⟨pw_and h.pt h2.pt, ?_⟩
  intro G0 H0 W H ts vs env σ k env' S e Q q
  obtain ⟨⟨b, e1⟩, g1, g2⟩ := obind e
  refine h.ok _ _ _ _ _ _ _ _ _ _ S g1 _ fun H' s S' => ?_
  cases b with
  | true => rw [if_pos rfl]; exact h2.ok _ _ _ _ _ _ _ _ _ _ S' g2 _ fun H2 s2 S2 => q H2 (s.trans s2) S2
  | false => rw [if_neg Bool.false_ne_true]; cases g2; exact q H' s S'
theorem dw_or (h : DC X a tc c) (h2 : DW X (.BoolOp .Or (b :: rest) pos) td d) : DW X (.BoolOp .Or (a :: b :: rest) pos) (tOr tc td) (cOr c d) := by
  refine ⟨pw_or h.pt h2.pt, ?_⟩
  intro G0 H0 W H ts vs env σ k env' S e Q q
  obtain ⟨⟨b, e1⟩, g1, g2⟩ := obind e
  refine h.ok _ _ _ _ _ _ _ _ _ _ S g1 _ fun H' s S' => ?_
  cases b with
  | true => rw [if_pos rfl]; cases g2; exact q H' s S'
  | false => rw [if_neg Bool.false_ne_true]; exact h2.ok _ _ _ _ _ _ _ _ _ _ S' g2 _ fun H2 s2 S2 => q H2 (s.trans s2) S2
theorem DW.dc (h : DW X e tc c) : DC X e tc c := ⟨h.pt.pt, h.ok⟩
/-- and, or, not as values (bools) -/
def eAnd (fa fb : EF) : EF := fun env => (cT fa env).bind fun r => if r.1 then fb r.2 else some (.p (.bl false), r.2)
def eOr (fa fb : EF) : EF := fun env => (cT fa env).bind fun r => if r.1 then some (.p (.bl true), r.2) else fb r.2
def eNot (fa : EF) : EF := fun env => (cT fa env).map fun r => (.p (.bl (!r.1)), r.2)
theorem dt_one {op} {t : TE} (h : DT X a t fa) : DT X (.BoolOp op [a] pos) t fa := ⟨pe_one h.pe, h.ok⟩
theorem dt_and (h : DT X a ta fa) (h2 : DT X (.BoolOp .And (b :: rest) pos) tb fb) : DT X (.BoolOp .And (a :: b :: rest) pos) (tAndV ta tb) (eAnd fa fb) := by
  refine ⟨pe_and h.pe h2.pe, ?_⟩
  intro G0 H0 W H ts vs env σ k env' S e Q q
  obtain ⟨⟨b, e1⟩, g1, g2⟩ := obind e
  have t1 := h.ok.test _ _ _ _ _ _ _ _ _ _ S g1 (fun b H' => if b = true then tb σ H' Q else Q (.bl false) H') fun H' s S' => by
    cases b with
    | true => rw [if_pos rfl]; exact h2.ok _ _ _ _ _ _ _ _ _ _ S' g2 _ fun v H2 s2 S2 => q v H2 (s.trans s2) S2
    | false => rw [if_neg Bool.false_ne_true]; cases g2; exact q _ H' s (S'.scal fun _ => rfl)
  exact t1
theorem dt_or (h : DT X a ta fa) (h2 : DT X (.BoolOp .Or (b :: rest) pos) tb fb) : DT X (.BoolOp .Or (a :: b :: rest) pos) (tOrV ta tb) (eOr fa fb) := by
  refine ⟨pe_or h.pe h2.pe, ?_⟩
  intro G0 H0 W H ts vs env σ k env' S e Q q
  obtain ⟨⟨b, e1⟩, g1, g2⟩ := obind e
  have t1 := h.ok.test _ _ _ _ _ _ _ _ _ _ S g1 (fun b H' => if b = true then Q (.bl true) H' else tb σ H' Q) fun H' s S' => by
    cases b with
    | true => rw [if_pos rfl]; cases g2; exact q _ H' s (S'.scal fun _ => rfl)
    | false => rw [if_neg Bool.false_ne_true]; exact h2.ok _ _ _ _ _ _ _ _ _ _ S' g2 _ fun v H2 s2 S2 => q v H2 (s.trans s2) S2
  exact t1
theorem dt_not (h : DT X a ta fa) : DT X (.UnaryOp .Not a pos) (tNotV ta) (eNot fa) := by
  refine ⟨pe_not h.pe, ?_⟩
  intro G0 H0 W H ts vs env σ k env' S e Q q
  obtain ⟨⟨b, e1⟩, g1, g2⟩ := omap e
  cases g2
  have t1 := h.ok.test _ _ _ _ _ _ _ _ _ _ S g1 (fun b H' => Q (.bl (!b)) H') fun H' s S' => q _ H' s (S'.scal fun _ => rfl)
  exact t1
theorem dt_ifExp (hc : DC X e tc c) (ha : DT X a ta fa) (hb : DT X b tb fb) : DT X (.IfExp e a b pos) (tIf tc ta tb) (eIf c fa fb) := by
  refine ⟨pe_ifExp hc.pt ha.pe hb.pe, ?_⟩
  intro G0 H0 W H ts vs env σ k env' S e Q q
  obtain ⟨⟨b, e1⟩, g1, g2⟩ := obind e
  refine hc.ok _ _ _ _ _ _ _ _ _ _ S g1 _ fun H' s S' => ?_
  cases b with
  | true => rw [if_pos rfl]; exact ha.ok _ _ _ _ _ _ _ _ _ _ S' g2 _ fun v H2 s2 S2 => q v H2 (s.trans s2) S2
  | false => rw [if_neg Bool.false_ne_true]; exact hb.ok _ _ _ _ _ _ _ _ _ _ S' g2 _ fun v H2 s2 S2 => q v H2 (s.trans s2) S2
/-- a op1 b op2 c of ints -/
def eChain (f g : Int → Int → Bool) (fa fb fc : EF) : EF := fun env => (fa env).bind fun x => (fb x.2).bind fun y => match x.1, y.1 with
  | .p (.int i), .p (.int j) => if f i j then (fc y.2).bind fun z => match z.1 with | .p (.int k) => some (.p (.bl (g j k)), z.2) | _ => none
    else some (.p (.bl false), y.2)
  | _, _ => none
theorem ev_chain {K : PySem.W.Frag} {p q : Int → Int → Bool} {t3 : TE} {fc : EF} (ha : EvT K ta fa) (hb : EvT K tb fb) (hc : EvT K t3 fc) : EvT K (tChain (rI0 fun i j => .bl (p i j)) (rI0 fun i j => .bl (q i j)) ta tb t3) (eChain p q fa fb fc) := by
  intro G0 H0 W H ts vs env σ t env' S e Q w
  obtain ⟨⟨x, e1⟩, h1, h2⟩ := obind e
  obtain ⟨⟨y, e2⟩, h3, h4⟩ := obind h2
  dsimp only at h4
  split at h4
  · rename_i i j
    refine ha _ _ _ _ _ _ _ _ _ _ S h1 _ fun v H1 s1 S1 => ?_
    refine hb _ _ _ _ _ _ _ _ _ _ S1 h3 _ fun u H2 s2 S2 => ?_
    refine ⟨i, j, S2.pop.top, S2.top, p i j, rfl, ?_⟩
    by_cases hp : p i j = true
    · rw [if_pos hp] at h4 ⊢
      obtain ⟨⟨z, e3⟩, h5, h6⟩ := obind h4
      refine hc _ _ _ _ _ _ _ _ _ _ S2 h5 _ fun z' H3 s3 S3 => ?_
      dsimp only at h6
      split at h6
      · rename_i k
        cases h6
        exact ⟨j, k, S3.pop.top, S3.top, w _ H3 ((s1.trans s2).trans s3) (S3.pop.pop.pop.scal fun _ => rfl)⟩
      · cases h6
    · rw [if_neg hp] at h4 ⊢
      cases h4
      exact w _ H2 (s1.trans s2) (S2.pop.pop.scal fun _ => rfl)
  · cases h4
theorem dt_chain {c : Expr} {op op' : CmpOp} {p q : Int → Int → Bool} {t3 : TE} {fc : EF} (ho : OpR X (compareOp op) (rI0 fun i j => .bl (p i j))) (ho' : OpR X (compareOp op') (rI0 fun i j => .bl (q i j))) (ha : DT X a ta fa) (hb : DT X b tb fb) (hc : DT X c t3 fc)
    (hm : lastMarks [op, op'] [b, c] = false := by with_unfolding_all rfl) : DT X (.Compare a [op, op'] [b, c] pos) (tChain (rI0 fun i j => .bl (p i j)) (rI0 fun i j => .bl (q i j)) ta tb t3) (eChain p q fa fb fc) := ⟨pe_chain ho ho' ha.pe hb.pe hc.pe hm, ev_chain ha.ok hb.ok hc.ok⟩
theorem dc_chain {c : Expr} {op op' : CmpOp} {p q : Int → Int → Bool} {t3 : TE} {fc : EF} (ho : OpR X (compareOp op) (rI0 fun i j => .bl (p i j))) (ho' : OpR X (compareOp op') (rI0 fun i j => .bl (q i j))) (ha : DT X a ta fa) (hb : DT X b tb fb) (hc : DT X c t3 fc)
    (hm : lastMarks [op, op'] [b, c] = false := by with_unfolding_all rfl) : DC X (.Compare a [op, op'] [b, c] pos) (tTest (tChain (rI0 fun i j => .bl (p i j)) (rI0 fun i j => .bl (q i j)) ta tb t3)) (cT (eChain p q fa fb fc)) := ⟨pt_chain ho ho' ha.pe hb.pe hc.pe hm, (ev_chain ha.ok hb.ok hc.ok).test⟩
end
end DL

set_option Elab.async false
set_option linter.all false
set_option maxRecDepth 100000
namespace DL
open PySem PySem.Spec PyProof.Rows L2

/-! ### looked-at sequences -/
def itemsT : T → Option (List D)
  | .p (.lst ds) => some ds
  | .p (.tup ds) => some ds
  | .lst ts => allP ts
  | .tup ts => allP ts
  | _ => none
def isLT : T → Bool
  | .p (.lst _) => true
  | .lst _ => true
  | _ => false
section
variable {K : PySem.W.Frag} {G0 H0 H : Hp} {W : List (T × V)} {ts : List T} {vs : List V} {env : Env} {σ : St} {t : T} {v : V}
theorem OkS.pushD {G : Hp} {ot oe : List Addr} : ∀ {ds : List D} {xs : List V}, St0 K G0 H0 W G H ts vs env σ ot oe → RpDs K G ds xs → OkS K G0 H0 W H (ds.map T.p ++ ts) (xs ++ vs) env σ := fun {ds xs} s h =>
  ⟨G, ot, oe, (rpTs_p h).append s.tmp, s.env, s.nd, s.fr, s.g0, s.gh, s.h0, s.nw, s.vw⟩
theorem OkS.items {ds : List D} (S : OkS K G0 H0 ((t, v) :: W) H ts vs env σ) (h : itemsT t = some ds) :
    ∃ a xs, v = .ref a ∧ (isLT t = true → SqL K H a xs) ∧ (isLT t = false → SqT K H a xs) ∧ xs.length = ds.length ∧ OkS K G0 H0 W H (ds.map T.p ++ ts) (xs ++ vs) env σ := by
  obtain ⟨G, ot, oe, s⟩ := S
  obtain ⟨o, r⟩ := s.vw (t, v) (by simp)
  have s' : St0 K G0 H0 W G H ts vs env σ ot oe := ⟨s.tmp, s.env, s.nd, s.fr, s.g0, s.gh, s.h0, s.nw, fun q hq => s.vw q (List.mem_cons_of_mem _ hq)⟩
  cases t with
  | p d =>
    cases d with
    | lst ds' =>
      cases h
      obtain ⟨⟨a, xs, e1, e2, e3⟩, _⟩ := r
      exact ⟨a, xs, e1, fun _ => s.gh.seq (.inl e2), (fun z => by cases z), e3.len, OkS.pushD s' e3⟩
    | tup ds' =>
      cases h
      obtain ⟨⟨a, xs, e1, e2, e3⟩, _⟩ := r
      exact ⟨a, xs, e1, (fun z => by cases z), fun _ => tup_seq s.gh e2, e3.len, OkS.pushD s' e3⟩
    | _ => cases h
  | lst us =>
    have e := allP_eq (show allP us = some ds from h)
    subst e
    obtain ⟨a, xs, o', e1, e2, e3, e4⟩ := r
    obtain ⟨k1, k2⟩ := rpDs_of e3
    exact ⟨a, xs, e1, fun _ => .inl (.inl e2), (fun z => by cases z), k1.len, OkS.pushD s' k1⟩
  | tup us =>
    have e := allP_eq (show allP us = some ds from h)
    subst e
    obtain ⟨a, xs, e1, e2, e3⟩ := r
    obtain ⟨k1, k2⟩ := rpDs_of e3
    exact ⟨a, xs, e1, (fun z => by cases z), fun _ => tup_seq s.gh e2, k1.len, OkS.pushD s' k1⟩
  | dic _ => cases h
  | dit _ => cases h
  | obj _ _ => cases h
  | box _ _ => cases h
  | al _ => cases h
end
/-! ### len -/
def lenD : D → Option Int
  | .lst ds => some ds.length
  | .tup ds => some ds.length
  | .str s => if s.length ≤ 16777216 then some s.length else none
  | .dic kvs => none
  | _ => none
def lenT : T → Option Int
  | .p d => lenD d
  | .lst ts => some ts.length
  | .tup ts => some ts.length
  | .dic ts => none
  | _ => none
theorem toDs_length : ∀ ts : List T, (T.toDs ts).length = ts.length
  | [] => rfl
  | t :: ts => by rw [T.toDs, List.length_cons, toDs_length ts, List.length_cons]
theorem lenT_D {t : T} {n : Int} (h : lenT t = some n) : lenD t.toD = some n := by
  cases t with
  | p d => exact h
  | lst ts => rw [← h]; show some ((T.toDs ts).length : Int) = some (ts.length : Int); rw [toDs_length]
  | tup ts => rw [← h]; show some ((T.toDs ts).length : Int) = some (ts.length : Int); rw [toDs_length]
  | dic _ => cases h
  | dit _ => cases h
  | obj _ _ => cases h
  | box _ _ => cases h
  | al _ => cases h
/-- a built-in's one looked-at argument to a scalar -/
def eB1 (g : T → Option D) (f : EF) : EF := fun env => (f env).bind fun r => (g r.1).map fun d => (.p d, r.2)
def Bi1 (r : PySem.W.Frag → List V → Hp → VK → Prop) (g : T → Option D) : Prop := ∀ (K : PySem.W.Frag) (H : Hp) (t : T) (d : D) (v : V) (Q : VK), g t = some d → RpD K H t.toD v → (∀ u, (∀ G, RpD K G d u) → Q u H) → r K [v] H Q
theorem ev_b1 {K : PySem.W.Frag} {r : PySem.W.Frag → List V → Hp → VK → Prop} {g : T → Option D} {te : TE} {f : EF} (hr : Bi1 r g) (h : EvV K te f) : EvT K (tCB (r K) (tCons te tNil)) (eB1 g f) := by
  intro G0 H0 W H ts vs env σ t env' S e Q q
  obtain ⟨⟨x, e1⟩, h1, h2⟩ := obind e
  obtain ⟨d, h3, h4⟩ := omap h2
  cases h4
  refine h _ _ _ _ _ _ _ _ _ _ S h1 _ fun v H1 s1 S1 => ?_
  exact hr K H1 x d v Q h3 (S1.see (q := (x, v)) (by simp)) fun u hu => q u H1 s1 (S1.unview.scal hu)
section
variable {X : Cx} {e a b : Expr} {te ta tb : TE} {f fa fb : EF} {p pos : Pos} {x : Str}
theorem dt_b1 {id : String} {r : PySem.W.Frag → List V → Hp → VK → Prop} {g : T → Option D} (hc : CallR X (.builtin id) (r X.K)) (hr : Bi1 r g) (hg : Gl X x) (hm : X.mg x = none) (hv : bootBuiltins x = some (.builtin id)) (h : DV X e te f)
    (hs : starEach [e] X.env = (false, eval e X.env) :: starEach [] X.env := by rfl) (hn : x ≠ "__name__" := by decide) (hdb : (x == ("__debug__" : Str)) = false := by decide) : DT X (.Call (.Name x p) [e] [] pos) (tCB (r X.K) (tCons te tNil)) (eB1 g f) :=
  ⟨pe_callB hc hg hm hv (pa_cons h.pe pa_nil hs) hn hdb hs, ev_b1 hr h.ok⟩
theorem dt_ty1 {id : String} {r : PySem.W.Frag → List V → Hp → VK → Prop} {g : T → Option D} (hc : CallR X (.type id) (r X.K)) (hr : Bi1 r g) (hg : Gl X x) (hm : X.mg x = none) (hv : bootBuiltins x = some (.type id)) (h : DV X e te f)
    (hs : starEach [e] X.env = (false, eval e X.env) :: starEach [] X.env := by rfl) (hn : x ≠ "__name__" := by decide) (hdb : (x == ("__debug__" : Str)) = false := by decide) : DT X (.Call (.Name x p) [e] [] pos) (tCB (r X.K) (tCons te tNil)) (eB1 g f) :=
  ⟨pe_callTy hc hg hm hv (pa_cons h.pe pa_nil hs) hn hdb hs, ev_b1 hr h.ok⟩
end
def rLenA (K : PySem.W.Frag) : List V → Hp → VK → Prop := fun xs H Q => (∃ p ys, xs = [.ref p] ∧ (SqL K H p ys ∨ SqT K H p ys) ∧ Q (.int ys.length) H) ∨ ∃ z, xs = [.str z] ∧ z.length ≤ sizeLine ∧ Q (.int z.length) H
theorem call_lenA {X : Cx} : CallR X (.builtin "len") (rLenA X.K) := call_len_seq.or call_len_str
def gLen (t : T) : Option D := (lenT t).map D.int
theorem bi_len : Bi1 rLenA gLen := by
  intro K H t d v Q h r q
  obtain ⟨n, h1, h2⟩ := omap h
  subst h2
  have h3 := lenT_D h1
  cases hd : t.toD with
  | lst ds =>
    rw [hd] at h3 r
    obtain ⟨a, xs, e1, e2, e3⟩ := r
    cases h3
    exact .inl ⟨a, xs, by rw [e1], .inl (.inl e2), by rw [e3.len]; exact q _ fun _ => rfl⟩
  | tup ds =>
    rw [hd] at h3 r
    obtain ⟨a, xs, e1, e2, e3⟩ := r
    cases h3
    exact .inl ⟨a, xs, by rw [e1], .inr (tup_sq e2), by rw [e3.len]; exact q _ fun _ => rfl⟩
  | str s =>
    rw [hd] at h3 r
    have h3 : (if s.length ≤ 16777216 then some (s.length : Int) else none) = some n := h3
    by_cases hs : s.length ≤ 16777216
    · rw [if_pos hs] at h3
      cases h3
      exact .inr ⟨s, by rw [show v = _ from r], by rw [sizeLine_eq]; exact hs, q _ fun _ => rfl⟩
    · rw [if_neg hs] at h3; cases h3
  | non => rw [hd] at h3; cases h3
  | bl _ => rw [hd] at h3; cases h3
  | int _ => rw [hd] at h3; cases h3
  | dic _ => rw [hd] at h3; cases h3
  | dit _ => rw [hd] at h3; cases h3
  | obj _ _ => rw [hd] at h3; cases h3
  | al _ => rw [hd] at h3; cases h3
/-! ### sum -/
def intsD : List D → Option (List Int)
  | [] => some []
  | .int i :: r => (intsD r).map (i :: ·)
  | _ => none
theorem intsD_eq : ∀ {ds : List D} {ns : List Int}, intsD ds = some ns → ds = ns.map D.int
  | [], ns, h => by cases h; rfl
  | .int i :: r, ns, h => by
    obtain ⟨ms, h1, h2⟩ := omap (show (intsD r).map (i :: ·) = some ns from h)
    subst h2
    rw [intsD_eq h1]; rfl
  | .non :: _, _, h => by cases h
  | .bl _ :: _, _, h => by cases h
  | .str _ :: _, _, h => by cases h
  | .lst _ :: _, _, h => by cases h
  | .tup _ :: _, _, h => by cases h
  | .dic _ :: _, _, h => by cases h
  | .dit _ :: _, _, h => by cases h
  | .obj _ _ :: _, _, h => by cases h
  | .al _ :: _, _, h => by cases h
@[simp] theorem intsD_map : ∀ ns : List Int, intsD (ns.map D.int) = some ns
  | [] => rfl
  | n :: ns => by show (intsD (ns.map D.int)).map (n :: ·) = _; rw [intsD_map ns]; rfl
theorem rpDs_ints {K : PySem.W.Frag} {G : Hp} : ∀ {ns : List Int} {vs : List V}, RpDs K G (ns.map D.int) vs → vs = ns.map V.int
  | [], vs, h => h
  | n :: ns, vs, ⟨v, r, h1, h2, h3⟩ => by rw [h1, show v = _ from h2, rpDs_ints h3]; rfl
def listD : D → Option (List D)
  | .lst ds => some ds
  | _ => none
def gSum (t : T) : Option D := (listD t.toD).bind fun ds => (intsD ds).map fun ns => .int ns.sum
theorem bi_sum : Bi1 rSum gSum := by
  intro K H t d v Q h r q
  obtain ⟨ds, h1, h2⟩ := obind h
  obtain ⟨ns, h3, h4⟩ := omap h2
  subst h4
  cases hd : t.toD <;> rw [hd] at h1 <;> cases h1
  rw [hd] at r
  obtain ⟨a, xs, e1, e2, e3⟩ := r
  rw [intsD_eq h3] at e3
  rw [rpDs_ints e3] at e2
  exact ⟨a, ns, by rw [e1], .inl e2, q _ fun _ => rfl⟩
/-! ### two ints to one: max, min -/
def eI2 (g : Int → Int → Int) (fr : AF) : EF := fun env => (fr env).bind fun r => match r.1 with
  | [.p (.int i), .p (.int j)] => some (.p (.int (g i j)), r.2)
  | _ => none
section
variable {X : Cx} {e a b : Expr} {es : List Expr} {ta : TA} {fr : AF} {p pos : Pos} {x : Str}
theorem dt_i2 {id : String} {g : Int → Int → Int} {r : List V → Hp → VK → Prop} (hc : CallR X (.builtin id) r) (hr : ∀ (i j : Int) (H : Hp) (Q : VK), Q (.int (g i j)) H → r [.int i, .int j] H Q) (hg : Gl X x) (hm : X.mg x = none) (hv : bootBuiltins x = some (.builtin id)) (h : DA X (a :: es) ta fr)
    (hn : x ≠ "__name__" := by decide) (hdb : (x == ("__debug__" : Str)) = false := by decide) (he : starEach (a :: es) X.env = (false, eval a X.env) :: starEach es X.env := by rfl) (hpl : (backTo pos (starEach es X.env)).any (·.1) = false := by rfl) : DT X (.Call (.Name x p) (a :: es) [] pos) (tCB r ta) (eI2 g fr) := by
  refine ⟨pe_callB hc hg hm hv h.pa hn hdb he hpl, ?_⟩
  intro G0 H0 W H ts vs env σ t env' S e Q q
  obtain ⟨⟨us, e1⟩, h1, h2⟩ := obind e
  dsimp only at h2
  split at h2
  · rename_i i j
    cases h2
    refine h.ok _ _ _ _ _ _ _ _ _ _ S h1 _ fun ws H1 s1 hl S1 => ?_
    match ws, hl with
    | [w1, w2], _ =>
      have e1 : w1 = .int i := S1.top
      have S2 : OkS X.K G0 H0 W H1 (.p (.int j) :: ts) (w2 :: vs) env' σ := S1.pop
      have e2 : w2 = .int j := S2.top
      rw [e1, e2]
      exact hr i j H1 Q (q _ H1 s1 (S2.pop.scal fun _ => rfl))
  · cases h2
end
def maxI (i j : Int) : Int := if j > i then j else i
def minI (i j : Int) : Int := if j < i then j else i
theorem hr_max (i j : Int) (H : Hp) (Q : VK) (q : Q (.int (maxI i j)) H) : (fun (xs : List V) (H : Hp) (Q : VK) => ∃ i j, xs = [.int i, .int j] ∧ Q (.int (if j > i then j else i)) H) [.int i, .int j] H Q := ⟨i, j, rfl, q⟩
theorem hr_min (i j : Int) (H : Hp) (Q : VK) (q : Q (.int (minI i j)) H) : (fun (xs : List V) (H : Hp) (Q : VK) => ∃ i j, xs = [.int i, .int j] ∧ Q (.int (if j < i then j else i)) H) [.int i, .int j] H Q := ⟨i, j, rfl, q⟩
/-! ### str, int of an int or a text -/
def gStr : T → Option D
  | .p (.str s) => some (.str s)
  | .p (.int i) => if i.natAbs < 1606938044258990275541962092341162602522202993782792835301376 then some (.str (toString i)) else none
  | _ => none
def rStrA (_ : PySem.W.Frag) : List V → Hp → VK → Prop := fun xs H Q => (∃ a, xs = [.str a] ∧ Q (.str a) H) ∨ ∃ i : Int, xs = [.int i] ∧ i.natAbs.log2 < 1920 ∧ Q (.str (toString i)) H
theorem call_strA {X : Cx} : CallR X (.type "str") (rStrA X.K) := CallR.or SkE.call_str_str call_str_int
theorem bi_str : Bi1 rStrA gStr := by
  intro K H t d v Q h r q
  unfold gStr at h
  split at h
  · cases h; exact .inl ⟨_, by rw [show v = _ from r], q _ fun _ => rfl⟩
  · rename_i i
    by_cases hi : i.natAbs < 1606938044258990275541962092341162602522202993782792835301376
    · rw [if_pos hi] at h
      cases h
      refine .inr ⟨i, by rw [show v = _ from r], ?_, q _ fun _ => rfl⟩
      have e : (2 : Nat) ^ 200 = 1606938044258990275541962092341162602522202993782792835301376 := by decide
      rw [← e] at hi
      exact Nat.lt_of_lt_of_le (PySem.Flt.log2_lt_of (by decide) hi) (by decide)
    · rw [if_neg hi] at h; cases h
  · cases h
def gInt : T → Option D
  | .p (.int i) => some (.int i)
  | .p (.bl b) => some (.int (if b then 1 else 0))
  | .p (.str s) => if s.length ≤ 640 then (PySem.intText? s).map D.int else none
  | _ => none
def rIntA (_ : PySem.W.Frag) : List V → Hp → VK → Prop := fun xs H Q => ((∃ i, xs = [.int i] ∧ Q (.int i) H) ∨ ∃ k, xs = [.bl k] ∧ Q (.int (if k then 1 else 0)) H) ∨ ∃ a n, xs = [.str a] ∧ PySem.intText? a = some n ∧ a.length ≤ 640 ∧ Q (.int n) H
theorem call_intA {X : Cx} : CallR X (.type "int") (rIntA X.K) := call_int1.or call_int_str
theorem bi_int : Bi1 rIntA gInt := by
  intro K H t d v Q h r q
  unfold gInt at h
  split at h
  · cases h; exact .inl (.inl ⟨_, by rw [show v = _ from r], q _ fun _ => rfl⟩)
  · cases h; exact .inl (.inr ⟨_, by rw [show v = _ from r], q _ fun _ => rfl⟩)
  · rename_i s
    by_cases hs : s.length ≤ 640
    · rw [if_pos hs] at h
      obtain ⟨n, h1, h2⟩ := omap h
      subst h2
      exact .inr ⟨s, n, by rw [show v = _ from r], h1, hs, q _ fun _ => rfl⟩
    · rw [if_neg hs] at h; cases h
  · cases h
/-! ### isinstance of a built-in class -/
def tyD : D → String
  | .non => "NoneType" | .bl _ => "bool" | .int _ => "int" | .str _ => "str" | .lst _ => "list" | .tup _ => "tuple" | .dic _ => "dict" | _ => "dict"
def tyOk : D → Bool
  | .obj _ _ => false
  | .al _ => false
  | .dit _ => false
  | .dic _ => false
  | _ => true
theorem tyD_x {K : PySem.W.Frag} {H : Hp} {d : D} {v : V} (r : RpD K H d v) (hok : tyOk d = true) : TyX K H v (.type (tyD d)) := by
  cases d with
  | non => rw [show v = _ from r]; exact .base .non
  | bl b => rw [show v = _ from r]; exact .base (.bl b)
  | int i => rw [show v = _ from r]; exact .base (.int i)
  | str s => rw [show v = _ from r]; exact .base (.str s)
  | lst ds =>
    obtain ⟨a, xs, rfl, h, _⟩ := r
    rcases h with h | ⟨o, h⟩
    · exact .base (.lst h)
    · exact .base (.frz h)
  | tup ds =>
    obtain ⟨a, xs, rfl, h, _⟩ := r
    exact .base (.tup h)
  | dic ds => cases hok
  | dit _ => cases hok
  | obj _ _ => cases hok
  | al _ => cases hok
def eIsi (ty : String) (f : EF) : EF := fun env => (f env).bind fun r => if tyOk r.1.toD = true then (kitB (tyD r.1.toD) ty).map fun b => (.p (.bl b), r.2) else none
theorem dt_isi {X : Cx} {e : Expr} {te : TE} {f : EF} {p pos p2 : Pos} {ty : String} {x : Str} (hg : Gl X "isinstance") (hm : X.mg "isinstance" = none) (h : DV X e te f) (hgT : Gl X x) (hmT : X.mg x = none) (hvT : bootBuiltins x = some (.type ty))
    (hv : bootBuiltins "isinstance" = some (.builtin "isinstance") := by decide +kernel) (hs : starEach [e, .Name x p2] X.env = (false, eval e X.env) :: starEach [.Name x p2] X.env := by rfl) (hs2 : starEach [.Name x p2] X.env = (false, eval (.Name x p2) X.env) :: starEach [] X.env := by rfl) (hn : x ≠ "__name__" := by decide) (hd : (x == ("__debug__" : Str)) = false := by decide) :
    DT X (.Call (.Name "isinstance" p) [e, .Name x p2] [] pos) (tCB (rIsi X.K) (tCons te (tCons (tC (.ty ty)) tNil))) (eIsi ty f) := by
  refine ⟨pe_callB call_isi hg hm hv (pa_cons h.pe (pa_cons (pe_bltn hgT hmT hvT (show RelV (.ty ty) (.type ty) from rfl) hn hd) pa_nil hs2) hs) (by decide) (by decide) hs (by rw [hs2]; rfl), ?_⟩
  intro G0 H0 W H ts vs env σ t env' S e Q q
  obtain ⟨⟨u, e1⟩, h1, h2⟩ := obind e
  have hk : tyOk u.toD = true := by
    by_cases c : tyOk u.toD = true
    · exact c
    · rw [if_neg (show ¬ tyOk (u, e1).1.toD = true from c)] at h2; cases h2
  rw [if_pos (show tyOk (u, e1).1.toD = true from hk)] at h2
  obtain ⟨b, h3, h4⟩ := omap h2
  cases h4
  refine h.ok _ _ _ _ _ _ _ _ _ _ S h1 _ fun v H1 s1 S1 => ?_
  exact ⟨v, .ty ty, _, _, b, rfl, .ty ty, tyD_x (S1.see (q := (u, v)) (by simp)) hk, kit_ty h3, q _ H1 s1 (S1.unview.scal fun _ => rfl)⟩
/-! ### list(x), tuple(x) -/
def eList (f : EF) : EF := fun env => (f env).bind fun r => (itemsT r.1).map fun ds => (.lst (ds.map T.p), r.2)
def eTuple (f : EF) : EF := fun env => (f env).bind fun r => (itemsT r.1).map fun ds => (.p (.tup ds), r.2)
section
variable {X : Cx} {e a b : Expr} {te ta tb : TE} {f fa fb : EF} {p pos : Pos}
theorem dt_list (hg : Gl X "list") (hm : X.mg "list" = none) (h : DV X e te f) (hv : bootBuiltins "list" = some (.type "list") := by decide +kernel) (hs : starEach [e] X.env = (false, eval e X.env) :: starEach [] X.env := by rfl) :
    DT X (.Call (.Name "list" p) [e] [] pos) (tCB (fun xs H Q => ∃ p ys, xs = [.ref p] ∧ (SqL X.K H p ys ∨ SqT X.K H p ys) ∧ ∀ l, H l = none → Q (.ref l) (upd H l (.lst ys))) (tCons te tNil)) (eList f) := by
  refine ⟨pe_callTy call_list_of hg hm hv (pa_cons h.pe pa_nil hs) (by decide) (by decide) hs, ?_⟩
  intro G0 H0 W H ts vs env σ t env' S e Q q
  obtain ⟨⟨u, e1⟩, h1, h2⟩ := obind e
  obtain ⟨ds, h3, h4⟩ := omap h2
  cases h4
  refine h.ok _ _ _ _ _ _ _ _ _ _ S h1 _ fun v H1 s1 S1 => ?_
  obtain ⟨a, xs, rfl, k1, k2, k3, S2⟩ := S1.items h3
  refine ⟨a, xs, rfl, ?_, fun l hl => q _ _ (s1.trans (same_upd hl)) (S2.newL (by rw [List.length_map]; exact k3) hl)⟩
  cases hk : isLT u with
  | true => exact .inl (k1 hk)
  | false => exact .inr (k2 hk)
theorem dt_tuple (hg : Gl X "tuple") (hm : X.mg "tuple" = none) (h : DV X e te f) (hv : bootBuiltins "tuple" = some (.type "tuple") := by decide +kernel) (hs : starEach [e] X.env = (false, eval e X.env) :: starEach [] X.env := by rfl) :
    DT X (.Call (.Name "tuple" p) [e] [] pos) (tCB (fun xs H Q => ∃ p ys, xs = [.ref p] ∧ ((SqL X.K H p ys ∧ ∀ l, H l = none → Q (.ref l) (upd H l (.tup ys))) ∨ (SqT X.K H p ys ∧ Q (.ref p) H))) (tCons te tNil)) (eTuple f) := by
  refine ⟨pe_callTy call_tuple_of hg hm hv (pa_cons h.pe pa_nil hs) (by decide) (by decide) hs, ?_⟩
  intro G0 H0 W H ts vs env σ t env' S e Q q
  obtain ⟨⟨u, e1⟩, h1, h2⟩ := obind e
  obtain ⟨ds, h3, h4⟩ := omap h2
  cases h4
  refine h.ok _ _ _ _ _ _ _ _ _ _ S h1 _ fun v H1 s1 S1 => ?_
  obtain ⟨a, xs, rfl, k1, k2, k3, S2⟩ := S1.items h3
  cases hk : isLT u with
  | true =>
    refine ⟨a, xs, rfl, .inl ⟨k1 hk, fun l hl => ?_⟩⟩
    have S3 := S2.newT (by rw [List.length_map]; exact k3) hl
    rw [mkTup_p] at S3
    exact q _ _ (s1.trans (same_upd hl)) S3
  | false =>
    refine ⟨a, xs, rfl, .inr ⟨k2 hk, ?_⟩⟩
    obtain ⟨G, ot, oe, s⟩ := S1
    obtain ⟨o, r⟩ := s.vw (u, .ref a) (by simp)
    have rp : RpD X.K G (.tup ds) (.ref a) := by
      cases u with
      | p d => cases d <;> cases h3 <;> first | exact r.1 | cases hk
      | lst us => cases hk
      | tup us =>
        have e := allP_eq (show allP us = some ds from h3)
        subst e
        obtain ⟨a', xs', e1, e2, e3⟩ := r
        exact ⟨a', xs', e1, e2, (rpDs_of e3).1⟩
      | dic _ => cases h3
      | dit _ => cases h3
      | obj _ _ => cases h3
      | box _ _ => cases h3
      | al _ => cases h3
    exact q _ H1 s1 ⟨G, ot, oe, ⟨.ref a, vs, [], ot, rfl, ⟨rp, rfl⟩, s.tmp, rfl⟩, s.env, s.nd, s.fr, s.g0, s.gh, s.h0, s.nw, fun q hq => s.vw q (List.mem_cons_of_mem _ hq)⟩
end
end DL

set_option Elab.async false
set_option linter.all false
set_option maxRecDepth 100000
namespace DL
open PySem PySem.Spec PyProof.Rows L2

/-! ### items -/
def ixT : T → Int → Option T
  | .p (.lst ds), i => (atI ds i).map T.p
  | .p (.tup ds), i => (atI ds i).map T.p
  | .p (.str z), i => if z.length ≤ 16777216 then (atI z.cps.toList i).map fun c => .p (.str ⟨#[c]⟩) else none
  | .lst ts, i => atI ts i
  | .tup ts, i => atI ts i
  | _, _ => none
section
variable {K : PySem.W.Frag} {G0 H0 H G : Hp} {W : List (T × V)} {ts : List T} {vs : List V} {env : Env} {σ : St} {t : T} {v : V}
theorem atI_ix {α : Type} {xs : List α} {i : Int} {x : α} (h : atI xs i = some x) : ∃ j, ixN xs.length i = some j ∧ xs[j]? = some x := obind h
theorem atI_of {α : Type} {xs : List α} {n : Nat} {i : Int} {j : Nat} {x : α} (h : ixN n i = some j) (hn : xs.length = n) (hx : xs[j]? = some x) : atI xs i = some x := by
  unfold atI
  rw [hn, h]; exact hx
theorem RpTs.get : ∀ {ts : List T} {vs : List V} {o : List Addr} {i : Nat} {t : T}, RpTs K G H ts vs o → ts[i]? = some t → ∃ v o1, vs[i]? = some v ∧ Rp K G H t v o1
  | [], _, _, _, _, _, e => by simp at e
  | t :: ts, _, _, 0, t', ⟨v, r, o1, o2, h1, h2, h3, h4⟩, e => by
    simp at e; subst e; subst h1; exact ⟨v, o1, rfl, h2⟩
  | t :: ts, _, _, i + 1, t', ⟨v, r, o1, o2, h1, h2, h3, h4⟩, e => by
    subst h1
    obtain ⟨u, p, h5, h6⟩ := RpTs.get (i := i) h3 (by simpa using e)
    exact ⟨u, p, by simpa using h5, h6⟩
theorem OkS.ix {i : Int} {t' : T} (S : OkS K G0 H0 ((t, v) :: W) H ts vs env σ) (h : ixT t i = some t') :
    (∃ a xs v', v = .ref a ∧ (SqL K H a xs ∨ SqT K H a xs) ∧ (isLT t = true → SqL K H a xs) ∧ atI xs i = some v' ∧ OkS K G0 H0 ((t', v') :: W) H ts vs env σ) ∨ ∃ z c, v = .str z ∧ z.length ≤ sizeLine ∧ atI z.cps.toList i = some c ∧ t' = .p (.str ⟨#[c]⟩) := by
  obtain ⟨G, ot, oe, s⟩ := S
  obtain ⟨o, r⟩ := s.vw (t, v) (by simp)
  have mk : ∀ v' o', Rp K G H t' v' o' → OkS K G0 H0 ((t', v') :: W) H ts vs env σ := fun v' o' r' => ⟨G, ot, oe, s.tmp, s.env, s.nd, s.fr, s.g0, s.gh, s.h0, s.nw, fun q hq => by
    rcases List.mem_cons.mp hq with e | hq
    · subst e; exact ⟨o', r'⟩
    · exact s.vw q (List.mem_cons_of_mem _ hq)⟩
  cases t with
  | p d =>
    cases d with
    | lst ds =>
      obtain ⟨d, h1, h2⟩ := omap (show (atI ds i).map T.p = some t' from h)
      subst h2
      obtain ⟨⟨a, xs, e1, e2, e3⟩, _⟩ := r
      obtain ⟨j, k1, k2⟩ := atI_ix h1
      obtain ⟨v', k3, k4⟩ := e3.get k2
      exact .inl ⟨a, xs, v', e1, .inl (s.gh.seq (.inl e2)), (fun _ => s.gh.seq (.inl e2)), atI_of k1 e3.len k3, mk v' [] ⟨k4, rfl⟩⟩
    | tup ds =>
      obtain ⟨d, h1, h2⟩ := omap (show (atI ds i).map T.p = some t' from h)
      subst h2
      obtain ⟨⟨a, xs, e1, e2, e3⟩, _⟩ := r
      obtain ⟨j, k1, k2⟩ := atI_ix h1
      obtain ⟨v', k3, k4⟩ := e3.get k2
      exact .inl ⟨a, xs, v', e1, .inr (tup_seq s.gh e2), (fun z => by cases z), atI_of k1 e3.len k3, mk v' [] ⟨k4, rfl⟩⟩
    | str z =>
      have h : (if z.length ≤ 16777216 then (atI z.cps.toList i).map fun c => T.p (.str ⟨#[c]⟩) else none) = some t' := h
      by_cases hz : z.length ≤ 16777216
      · rw [if_pos hz] at h
        obtain ⟨c, h1, h2⟩ := omap h
        exact .inr ⟨z, c, r.1, by rw [sizeLine_eq]; exact hz, h1, h2.symm⟩
      · rw [if_neg hz] at h; cases h
    | _ => cases h
  | lst us =>
    obtain ⟨a, xs, o', e1, e2, e3, e4⟩ := r
    obtain ⟨j, k1, k2⟩ := atI_ix (show atI us i = some t' from h)
    obtain ⟨v', o1, k3, k4⟩ := e3.get k2
    exact .inl ⟨a, xs, v', e1, .inl (.inl (.inl e2)), (fun _ => .inl (.inl e2)), atI_of k1 e3.len k3, mk v' o1 k4⟩
  | tup us =>
    obtain ⟨a, xs, e1, e2, e3⟩ := r
    obtain ⟨j, k1, k2⟩ := atI_ix (show atI us i = some t' from h)
    obtain ⟨v', o1, k3, k4⟩ := e3.get k2
    exact .inl ⟨a, xs, v', e1, .inr (tup_seq s.gh e2), (fun z => by cases z), atI_of k1 e3.len k3, mk v' o1 k4⟩
  | dic _ => cases h
  | dit _ => cases h
  | obj _ _ => cases h
  | box _ _ => cases h
  | al _ => cases h
theorem OkS.viewS {z : D} {u : V} (S : OkS K G0 H0 W H ts vs env σ) (h : ∀ G, RpD K G z u) : OkS K G0 H0 ((.p z, u) :: W) H ts vs env σ := (S.scal h).toview
end
def eIx (fa fi : EF) : EF := fun env => (fa env).bind fun r => (fi r.2).bind fun s => match s.1 with
  | .p (.int i) => (ixT r.1 i).map fun t => (t, s.2)
  | _ => none
section
variable {X : Cx} {e a b : Expr} {te ta tb : TE} {f fa fb : EF} {p pos : Pos}
theorem dv_ix (ha : DV X a ta fa) (hb : DT X b tb fb) (hs : PlainIx b := by exact fun _ _ => rfl) : DV X (.Subscript a b pos) (tOp (rIx X.K) ta tb) (eIx fa fb) := by
  refine ⟨pe_ix ix_seq ha.pe hb.pe hs, ?_⟩
  intro G0 H0 W H ts vs env σ t env' S g Q q
  obtain ⟨⟨x, e1⟩, h1, h2⟩ := obind g
  obtain ⟨⟨y, e2⟩, h3, h4⟩ := obind h2
  dsimp only at h4
  split at h4
  · rename_i i
    obtain ⟨t', h5, h6⟩ := omap h4
    cases h6
    refine ha.ok _ _ _ _ _ _ _ _ _ _ S h1 _ fun v H1 s1 S1 => ?_
    refine hb.ok _ _ _ _ _ _ _ _ _ _ S1 h3 _ fun w H2 s2 S2 => ?_
    have ew : w = .int i := S2.top
    subst ew
    rcases S2.pop.ix h5 with ⟨a, xs, v', e1, e2, _, e3, S3⟩ | ⟨z, c, e1, e2, e3, e4⟩
    · rcases e2 with e2 | e2
      · exact .inl ⟨a, xs, i, v', e1, rfl, e2, e3, q _ H2 (s1.trans s2) S3⟩
      · exact .inr (.inl ⟨a, xs, i, v', e1, rfl, e2, e3, q _ H2 (s1.trans s2) S3⟩)
    · subst e4
      exact .inr (.inr ⟨z, i, c, e1, rfl, e2, e3, q _ H2 (s1.trans s2) (S2.pop.unview.viewS fun _ => rfl)⟩)
  · cases h4
end
/-! ### slices -/
abbrev OF := Env → Option (Option Int × Env)
def EvO (K : PySem.W.Frag) (to : TO) (f : OF) : Prop := ∀ (G0 H0 : Hp) (W : List (T × V)) (H : Hp) (ts : List T) (vs : List V) (env : Env) (σ : St) (o : Option Int) (env' : Env), OkS K G0 H0 W H ts vs env σ → f env = some (o, env') →
  ∀ Q : Option Int → Hp → Prop, (∀ H', Same H H' → OkS K G0 H0 W H' ts vs env' σ → Q o H') → to σ H Q
structure DO (X : Cx) (e : Option Expr) (to : TO) (f : OF) : Prop where
  po : PO X e to
  ok : EvO X.K to f
def oN : OF := fun env => some (none, env)
def oS (f : EF) : OF := fun env => (f env).bind fun r => match r.1 with | .p (.int i) => some (some i, r.2) | _ => none
def cutD (ds : List D) (lo hi : Option Int) : List D := (ds.drop (HT.sIx ds.length 0 lo)).take (HT.sIx ds.length ds.length hi - HT.sIx ds.length 0 lo)
def cutT (t : T) (lo hi : Option Int) : Option T := match t with
  | .p (.str z) => if z.length ≤ 16777216 then some (.p (.str (cutS z lo hi))) else none
  | .p (.lst ds) => some (.lst ((cutD ds lo hi).map T.p))
  | .lst ts => (allP ts).map fun ds => .lst ((cutD ds lo hi).map T.p)
  | .p (.tup ds) => if HT.sIx ds.length 0 lo = 0 ∧ HT.sIx ds.length ds.length hi = ds.length then none else some (.p (.tup (cutD ds lo hi)))
  | _ => none
def eSl (fa : EF) (lo hi : OF) : EF := fun env => (fa env).bind fun r => (lo r.2).bind fun l => (hi l.2).bind fun u => (cutT r.1 l.1 u.1).map fun t => (t, u.2)
theorem RpDs.cut {K : PySem.W.Frag} {G : Hp} {ds : List D} {xs : List V} (h : RpDs K G ds xs) (lo hi : Option Int) : RpDs K G (cutD ds lo hi) (cutV xs lo hi) := by
  unfold cutD cutV
  rw [h.len]
  exact (h.drop _).take _
def rSlA (K : PySem.W.Frag) : V → Option Int → Option Int → Hp → VK → Prop := fun x lo hi H Q => rSlL K x lo hi H Q ∨ rSlT K x lo hi H Q ∨ rSlS x lo hi H Q
theorem sl_any {X : Cx} : SlR X (rSlA X.K) := sl_list.or (sl_tup.or sl_str)
section
variable {X : Cx} {e : Expr} {te : TE} {f : EF} {lo hi : Option Expr} {tl th : TO} {fl fh : OF} {pos p2 : Pos}
theorem do_none : DO X none tNoPart oN := ⟨po_none, fun _ _ _ H _ _ _ _ _ _ S e Q q => by cases e; exact q H (Same.refl _) S⟩
theorem do_some (h : DT X e te f) : DO X (some e) (tPart te) (oS f) := by
  refine ⟨po_some h.pe, ?_⟩
  intro G0 H0 W H ts vs env σ o env' S g Q q
  obtain ⟨⟨x, e1⟩, h1, h2⟩ := obind g
  dsimp only at h2
  split at h2
  · rename_i i
    cases h2
    exact h.ok _ _ _ _ _ _ _ _ _ _ S h1 _ fun v H1 s1 S1 => ⟨i, S1.top, q H1 s1 S1.pop⟩
  · cases h2
theorem dt_sl (h : DV X e te f) (hl : DO X lo tl fl) (hh : DO X hi th fh) : DT X (.Subscript e (.Slice lo hi none p2) pos) (tSl (rSlA X.K) te tl th) (eSl f fl fh) := by
  refine ⟨pe_slice sl_any h.pe hl.po hh.po, ?_⟩
  intro G0 H0 W H ts vs env σ t env' S g Q q
  obtain ⟨⟨x, e1⟩, h1, h2⟩ := obind g
  obtain ⟨⟨l, e2⟩, h3, h4⟩ := obind h2
  obtain ⟨⟨u, e3⟩, h5, h6⟩ := obind h4
  obtain ⟨t', h7, h8⟩ := omap h6
  cases h8
  refine h.ok _ _ _ _ _ _ _ _ _ _ S h1 _ fun v H1 s1 S1 => ?_
  refine hl.ok _ _ _ _ _ _ _ _ _ _ S1 h3 _ fun H2 s2 S2 => ?_
  refine hh.ok _ _ _ _ _ _ _ _ _ _ S2 h5 _ fun H3 s3 S3 => ?_
  have s13 := (s1.trans s2).trans s3
  have lst : ∀ ds, itemsT x = some ds → isLT x = true → t = .lst ((cutD ds l u).map T.p) → rSlA X.K v l u H3 Q := fun ds hi hL ht => by
    obtain ⟨G, ot, oe, s⟩ := S3
    obtain ⟨o, r⟩ := s.vw (x, v) (by simp)
    have s' : St0 X.K G0 H0 W G H3 ts vs _ σ ot oe := ⟨s.tmp, s.env, s.nd, s.fr, s.g0, s.gh, s.h0, s.nw, fun q hq => s.vw q (List.mem_cons_of_mem _ hq)⟩
    obtain ⟨a, xs, rfl, k1, _, _, _⟩ := OkS.items ⟨G, ot, oe, s⟩ hi
    have rp : ∃ xs, SqL X.K H3 a xs ∧ RpDs X.K G ds xs := by
      cases x with
      | p d =>
        cases d with
        | lst ds' =>
          cases hi
          obtain ⟨⟨a', xs', e1, e2, e3⟩, _⟩ := r
          cases e1
          exact ⟨xs', s.gh.seq (.inl e2), e3⟩
        | tup ds' => cases hL
        | _ => cases hi
      | lst us =>
        have e := allP_eq (show allP us = some ds from hi)
        subst e
        obtain ⟨a', xs', o', e1, e2, e3, e4⟩ := r
        cases e1
        exact ⟨xs', .inl (.inl e2), (rpDs_of e3).1⟩
      | tup us => cases hL
      | dic _ => cases hi
      | dit _ => cases hi
      | obj _ _ => cases hi
      | box _ _ => cases hi
      | al _ => cases hi
    obtain ⟨xs, hx, hr⟩ := rp
    refine .inl ⟨a, xs, rfl, hx, fun p hp => ?_⟩
    subst ht
    have hc := hr.cut l u
    exact q _ _ (s13.trans (same_upd hp)) (OkS.newL (by rw [List.length_map]; exact hc.len) (OkS.pushD s' hc) hp)
  have h7 : cutT x l u = some t := h7
  cases x with
  | p d =>
    cases d with
    | str z =>
      have h7 : (if z.length ≤ 16777216 then some (T.p (.str (cutS z l u))) else none) = some t := h7
      by_cases hz : z.length ≤ 16777216
      · rw [if_pos hz] at h7
        cases h7
        exact .inr (.inr ⟨z, (S3.see (q := (T.p (.str z), v)) (by simp)), by rw [sizeLine_eq]; exact hz, q _ H3 s13 (S3.unview.scal fun _ => rfl)⟩)
      · rw [if_neg hz] at h7; cases h7
    | lst ds =>
      cases h7
      exact lst ds rfl rfl rfl
    | tup ds =>
      have h7 : (if HT.sIx ds.length 0 l = 0 ∧ HT.sIx ds.length ds.length u = ds.length then none else some (T.p (.tup (cutD ds l u)))) = some t := h7
      by_cases hw : HT.sIx ds.length 0 l = 0 ∧ HT.sIx ds.length ds.length u = ds.length
      · rw [if_pos hw] at h7; cases h7
      · rw [if_neg hw] at h7
        cases h7
        obtain ⟨G, ot, oe, s⟩ := S3
        obtain ⟨o, r⟩ := s.vw (.p (.tup ds), v) (by simp)
        have s' : St0 X.K G0 H0 W G H3 ts vs _ σ ot oe := ⟨s.tmp, s.env, s.nd, s.fr, s.g0, s.gh, s.h0, s.nw, fun q hq => s.vw q (List.mem_cons_of_mem _ hq)⟩
        obtain ⟨⟨a, xs, e1, e2, e3⟩, _⟩ := r
        refine .inr (.inl ⟨a, xs, e1, tup_seq s.gh e2, by rw [e3.len]; exact hw, fun p hp => ?_⟩)
        have hc := e3.cut l u
        have S4 := OkS.newT (by rw [List.length_map]; exact hc.len) (OkS.pushD s' hc) hp
        rw [mkTup_p] at S4
        exact q _ _ (s13.trans (same_upd hp)) S4
    | _ => cases h7
  | lst us =>
    obtain ⟨ds, k1, k2⟩ := omap (show (allP us).map (fun ds => T.lst ((cutD ds l u).map T.p)) = some t from h7)
    exact lst ds k1 rfl k2.symm
  | _ => cases h7
end
/-! ### what is changed in place -/
section
variable {K : PySem.W.Frag} {G0 H0 H : Hp} {W : List (T × V)} {ts : List T} {vs : List V} {env : Env} {σ : St} {t : T} {v : V}
theorem OkS.wrL {us es : List T} {ws : List V} (S : OkS K G0 H0 W H (.lst us :: (es ++ ts)) (v :: (ws ++ vs)) env σ) (hw : ws.length = es.length) : ∃ a xs, v = .ref a ∧ H a = some (.lst xs) ∧ xs.length = us.length ∧
    ∀ (us' : List T) (xs' : List V), (∀ (G : Hp) (o1 o2 : List Addr), RpTs K G H us xs o1 → RpTs K G H es ws o2 → ∃ o' r, RpTs K G H us' xs' o' ∧ (o1 ++ o2).Perm (o' ++ r)) → OkS K G0 H0 [] (upd H a (.lst xs')) (.lst us' :: ts) (.ref a :: vs) env σ := by
  obtain ⟨G, ot, oe, s⟩ := S
  obtain ⟨v0, r0, oa, ob, h1, ⟨a, xs, o1, e1, e2, e3, e4⟩, h3, h4⟩ := s.tmp
  cases h1
  obtain ⟨o2, o3, k1, k2, k3⟩ := h3.split hw
  refine ⟨a, xs, e1, e2, e3.len, fun us' xs' hf => ?_⟩
  obtain ⟨o', r, f1, f2⟩ := hf G o1 o2 e3 k1
  have pm : (ot ++ oe).Perm (a :: (o' ++ (o3 ++ oe)) ++ r) := by
    rw [h4, e4, k3]
    have q1 : (a :: o1 ++ (o2 ++ o3) ++ oe) = a :: ((o1 ++ o2) ++ (o3 ++ oe)) := by simp
    rw [q1, List.cons_append]
    refine List.Perm.cons a ?_
    refine (List.Perm.append_right _ f2).trans ?_
    rw [List.append_assoc, List.append_assoc]
    exact List.Perm.append_left _ List.perm_append_comm
  have nd := (List.nodup_append.mp (pm.nodup_iff.mp s.nd)).1
  have na : ∀ b ∈ o' ++ (o3 ++ oe), b ≠ a := fun b hb e => by
    subst e
    exact (List.nodup_cons.mp nd).1 hb
  have kp : ∀ b ∈ o' ++ (o3 ++ oe), upd H a (.lst xs') b = H b := fun b hb => upd_ne (na b hb)
  have fr : ∀ b ∈ a :: (o' ++ (o3 ++ oe)), G b = none ∧ H0 b = none := fun b hb => s.fr b (pm.mem_iff.mpr (List.mem_append_left _ hb))
  refine ⟨G, a :: o' ++ o3, oe, ⟨.ref a, vs, a :: o', o3, rfl, ⟨a, xs', o', rfl, upd_same, f1.mono (Same.refl _) _ (fun b hb => kp b (by simp [hb])), rfl⟩, k2.mono (Same.refl _) _ (fun b hb => kp b (by simp [hb])), rfl⟩, s.env.mono (Same.refl _) _ (fun b hb => kp b (by simp [hb])), by simpa using nd, fun b hb => fr b (by simpa using hb), s.g0, fun b u e => ?_, fun b u e => ?_, s.nw, fun q hq => by cases hq⟩
  · have : b ≠ a := fun z => by subst z; rw [(fr b (by simp)).1] at e; cases e
    rw [upd_ne this]; exact s.gh b u e
  · have : b ≠ a := fun z => by subst z; rw [(fr b (by simp)).2] at e; cases e
    rw [upd_ne this]; exact s.h0 b u e
theorem RpTs.set {G : Hp} : ∀ {ts : List T} {vs : List V} {o : List Addr} {i : Nat} {t : T} {v : V} {o1 : List Addr}, RpTs K G H ts vs o → i < ts.length → Rp K G H t v o1 → ∃ o' r, RpTs K G H (ts.set i t) (vs.set i v) o' ∧ (o ++ o1).Perm (o' ++ r)
  | [], _, _, _, _, _, _, _, hi, _ => by simp at hi
  | u :: us, _, _, 0, t, v, o1, ⟨w, r, p1, p2, h1, h2, h3, h4⟩, _, h => by
    subst h1; subst h4
    refine ⟨o1 ++ p2, p1, ⟨v, r, o1, p2, rfl, h, h3, rfl⟩, ?_⟩
    rw [List.append_assoc]
    refine List.perm_append_comm.trans ?_
    exact List.Perm.append_right _ List.perm_append_comm
  | u :: us, _, _, i + 1, t, v, o1, ⟨w, r, p1, p2, h1, h2, h3, h4⟩, hi, h => by
    subst h1; subst h4
    obtain ⟨o', r', g1, g2⟩ := RpTs.set (i := i) h3 (by simpa using hi) h
    refine ⟨p1 ++ o', r', ⟨w, _, p1, o', rfl, h2, g1, rfl⟩, ?_⟩
    rw [List.append_assoc, List.append_assoc]
    exact List.Perm.append_left _ g2
end
/-- x.append(e), x a name -/
def sApp (i : Nat) (f : EF) : SF := fun env => match env[i]? with
  | some (some (.lst _)) => (f env).bind fun r => match r.2[i]? with
    | some (some (.lst us)) => if us.length < 16000000 then some (.nx, r.2.set i (some (.lst (us ++ [r.1])))) else none
    | _ => none
  | _ => none
section
variable {X : Cx} {e : Expr} {te : TE} {f : EF} {pos cpos apos npos : Pos}
theorem ds_app (i : Nat) {x : Str} (h : DT X e te f) (hN : X.N[i]? = some x := by rfl) (hv : Vis X.env.scope x := by first | exact Or.inl rfl | exact Or.inr (Or.inl rfl) | exact Or.inr (Or.inr rfl)) (hd : (x == ("__debug__" : Str)) = false := by decide) (hcd : (x == ("__classdict__" : Str)) = false := by decide)
    (hse : starEach [e] X.env = (false, eval e X.env) :: starEach [] X.env := by rfl)
    (hfew : ((backTo cpos (starEach [e] X.env)).all (fun x => !x.1) && (backToKw cpos (keywordEach [] X.env)).all (fun x => x.1.isSome)
      && decide ([e].length + ([] : List Keyword).length + (if ([] : List Keyword).isEmpty then 0 else 1) < 30)) = true := by rfl)
    (hline : (apos.endLine == cpos.line) = true := by rfl)
    (hs : swapsWith (.Call (.Attribute (.Name x npos) "append" apos) [e] [] cpos) none pos.line X.env = pure false := by rfl) :
    DS X (.Expr (.Call (.Attribute (.Name x npos) "append" apos) [e] [] cpos) pos) (tDrop (tBM X.K "list" rAppend (tVar i) (tCons te tNil))) (sApp i f) [] := by
  refine ⟨ps_expr (pe_bm PySem.F.plainAttrs_list PySem.F.slot_list_append PySem.F.type_list_append mt_append (pe_var hN hv hd hcd) (pa_cons h.pe pa_nil hse) rfl hfew hline hse rfl) hs, ?_⟩
  intro G0 H0 H ts vs env σ fl env' S g D q
  unfold sApp at g
  split at g
  · rename_i us0 he
    obtain ⟨⟨t, e1⟩, g1, g2⟩ := obind g
    dsimp only at g2
    split at g2
    · rename_i us he1
      by_cases hl : us.length < 16000000
      · rw [if_pos hl] at g2
        cases g2
        obtain ⟨v, hv1, S1⟩ := S.look he
        obtain ⟨a0, xs0, ev, hq0, _⟩ : ∃ a xs, v = .ref a ∧ SqL X.K H a xs ∧ True := by
          obtain ⟨a, xs, k1, k2, _⟩ := S1.see (q := (T.lst us0, v)) (by simp)
          exact ⟨a, xs, k1, .inl k2, trivial⟩
        subst ev
        refine ⟨.ref a0, hv1, .inl ⟨rfl, _, hq0⟩, ?_⟩
        refine h.ok _ _ _ _ _ _ _ _ _ _ S g1 _ fun w H1 s1 S2 => ?_
        obtain ⟨v2, hv2, S3⟩ := S2.get he1
        rw [hv1] at hv2
        cases hv2
        obtain ⟨a, xs, k1, k2, k3, k4⟩ := OkS.wrL (es := [t]) (ws := [w]) S3 rfl
        cases k1
        refine ⟨a0, xs, w, rfl, rfl, k2, by rw [k3, sizeLine_eq]; omega, ?_⟩
        have S4 := k4 (us ++ [t]) (xs ++ [w]) fun G o1 o2 r1 r2 => ⟨o1 ++ o2, [], r1.append r2, by simp⟩
        have hlen : i < e1.length := (List.getElem?_eq_some_iff.mp he1).1
        have S5 := S4.put (i := i) (by simpa using hlen)
        rw [List.set_set, set_back hv1] at S5
        exact q _ _ S5 .rfl'
      · rw [if_neg hl] at g2; cases g2
    · cases g2
  · cases g
end
def asI : T → Option Int
  | .p (.int i) => some i
  | _ => none
theorem asI_eq {t : T} {i : Int} (h : asI t = some i) : t = .p (.int i) := by
  unfold asI at h
  split at h
  · cases h; rfl
  · cases h
def atL (env : Env) (i : Nat) : Option (List T) := match env[i]? with
  | some (some (.lst us)) => some us
  | _ => none
theorem atL_eq {env : Env} {i : Nat} {us : List T} (h : atL env i = some us) : env[i]? = some (some (.lst us)) := by
  unfold atL at h
  split at h
  · rename_i h'; cases h; exact h'
  · cases h
/-- x[j] = e, x a name -/
def sPut (i : Nat) (fj f : EF) : SF := fun env => (f env).bind fun r => (atL r.2 i).bind fun _ => (fj r.2).bind fun s => (asI s.1).bind fun j => (atL s.2 i).bind fun us =>
  (ixN us.length j).map fun k => (.nx, s.2.set i (some (.lst (us.set k r.1))))
/-- x[j] op= e of ints, x a name -/
def sAugIx (i : Nat) (h : Int → Int → Int) (fj f : EF) : SF := fun env => (atL env i).bind fun _ => (fj env).bind fun s => (asI s.1).bind fun j => if 0 ≤ j then (atL s.2 i).bind fun us => (atI us j).bind fun t => (asI t).bind fun x =>
  (f s.2).bind fun r => (asI r.1).bind fun y => (atL r.2 i).bind fun us2 => (ixN us2.length j).map fun k => (.nx, r.2.set i (some (.lst (us2.set k (.p (.int (h x y)))))))
  else none
end DL

set_option Elab.async false
set_option linter.all false
set_option maxRecDepth 100000
namespace DL
open PySem PySem.Spec PyProof.Rows L2

section
variable {X : Cx}
/-- a list's item, by values, at a place that isn't negative -/
def rGetL (K : PySem.W.Frag) : V → V → Hp → VK → Prop := fun o i H Q => ∃ p xs k v, o = .ref p ∧ i = .int k ∧ SqL K H p xs ∧ 0 ≤ k ∧ atI xs k = some v ∧ Q v H
theorem get_list : PGet X (rGetL X.K) := by
  intro pins s σ H o i ov iv Q I ro ri h
  obtain ⟨p, xs, k, z, rfl, rfl, hq, h0, he, q⟩ := h
  cases ro
  obtain ⟨t, rfl⟩ := ri
  obtain ⟨its, r, pl, hz⟩ := I.list hq
  obtain ⟨j, h1, h2, h3, h4, h5⟩ := atI_get he
  obtain ⟨w, ew, rw'⟩ := r.get h2
  have hl := r.length
  have hn := line63
  have hj : k.toNat = j := by
    rw [seqIndex_of h0 h5] at h1
    exact Option.some.inj h1
  exact wpAny_getItem_list pl.isList h0 (by omega) (by rw [hj]; simpa using ew) ⟨z, H, I, rw', q⟩
end
section
variable {X : Cx} {e j : Expr} {te tj : TE} {f fj : EF} {pos npos ipos : Pos}
theorem ds_put (i : Nat) {x : Str} (h : DT X e te f) (hj : DT X j tj fj) (hN : X.N[i]? = some x := by rfl) (hv : Vis X.env.scope x := by first | exact Or.inl rfl | exact Or.inr (Or.inl rfl) | exact Or.inr (Or.inr rfl)) (hd : (x == ("__debug__" : Str)) = false := by decide) (hcd : (x == ("__classdict__" : Str)) = false := by decide)
    (ha : ∀ v, assign (.Subscript (.Name x npos) j ipos) X.env v = (do
      let ov ← holding [v] (eval (.Name x npos) X.env)
      let iv ← holding [v, ov] (eval j X.env)
      standAt ipos
      holding [v, ov, iv] (setItem ov iv v)
      release [v, ov, iv] []) := by intro _; rfl) (hs : swapsWithSole [.Subscript (.Name x npos) j ipos] e pos.line X.env = pure false := by rfl) (hw : swappedStores [.Subscript (.Name x npos) j ipos] e X.env = pure none := by rfl)
    (h1 : (assignEach [.Subscript (.Name x npos) j ipos] X.env).map (·.2) = [assign (.Subscript (.Name x npos) j ipos) X.env] := by rfl) :
    DS X (.Assign [.Subscript (.Name x npos) j ipos] e pos) (tAsg te (gSub (tVar i) tj rSetL)) (sPut i fj f) [] := by
  refine ⟨ps_asg h.pe (pg_sub (pe_var hN hv hd hcd) hj.pe set_list ha) hs hw h1, ?_⟩
  intro G0 H0 H ts vs env σ fl env' S g D q
  obtain ⟨⟨t, e1⟩, g1, g2⟩ := obind g
  obtain ⟨us, g3, g4⟩ := obind g2
  have he1 := atL_eq g3
  obtain ⟨⟨y, e2⟩, g5, g6⟩ := obind g4
  obtain ⟨k, g7, g8⟩ := obind g6
  have ey : y = .p (.int k) := asI_eq g7
  subst ey
  obtain ⟨us', g9, g10⟩ := obind g8
  have he2 := atL_eq g9
  obtain ⟨m, g11, g12⟩ := omap g10
  cases g12
  refine h.ok _ _ _ _ _ _ _ _ _ _ S g1 _ fun w H1 s1 S1 => ?_
  obtain ⟨v, hv1, S2⟩ := S1.look he1
  refine ⟨v, hv1, ?_⟩
  refine hj.ok _ _ _ _ _ _ _ _ _ _ S2.unview g5 _ fun z H2 s2 S3 => ?_
  have ez : z = .int k := S3.top
  subst ez
  obtain ⟨v2, hv2, S4⟩ := S3.pop.get he2
  rw [hv1] at hv2
  cases hv2
  obtain ⟨a, xs, k1, k2, k3, k4⟩ := OkS.wrL (es := [t]) (ws := [w]) S4 rfl
  cases k1
  have g11 : ixN us'.length k = some m := g11
  refine ⟨a, xs, k, m, rfl, rfl, k2, by rw [k3]; exact g11, ?_⟩
  have hm : m < us'.length := (ixN_seq g11).2.1
  have S5 := k4 (us'.set m t) (xs.set m w) fun G o1 o2 r1 r2 => by
    obtain ⟨v', r', p1, p2, q1, q2, q3, q4⟩ := r2
    cases q1
    have q3 : _ ∧ p2 = [] := q3
    obtain ⟨o', r, f1, f2⟩ := r1.set (i := m) hm q2
    exact ⟨o', r, f1, by rw [q4, q3.2, List.append_nil]; exact f2⟩
  have hlen : i < e2.length := (List.getElem?_eq_some_iff.mp he2).1
  have S6 := S5.put (i := i) (by simpa using hlen)
  rw [List.set_set, set_back hv1] at S6
  exact q _ _ S6 .rfl'
/-- x op= e of scalars -/
def sAug (i : Nat) (g : D → D → Option D) (f : EF) : SF := fun env => match env[i]? with
  | some (some (.p a)) => (f env).bind fun r => match r.1 with
    | .p b => (g a b).bind fun d => if i < r.2.length then some (.nx, r.2.set i (some (.p d))) else none
    | _ => none
  | _ => none
theorem ds_aug {i : Nat} {x : Str} {op : Operator} {r : TIp} {g : D → D → Option D} (hN : X.N.Nodup) (hi : X.N[i]? = some x) (hx : Loc X.env.scope x) (he : DT X e te f) (ho : PIp X op r) (hr : Sc2 r g)
    (hf : X.fn x = true ∨ X.env.scope.names.lookup x = some .local := by first | exact .inl rfl | exact .inr rfl | assumption) : DS X (.AugAssign (.Name x npos) op e pos) (tAug i te r) (sAug i g f) [i] := by
  refine ⟨ps_aug hN hi hx he.pe ho hf, ?_⟩
  intro G0 H0 H ts vs env σ fl env' S k D q
  unfold sAug at k
  split at k
  · rename_i a ha
    obtain ⟨⟨t, e1⟩, g1, g2⟩ := obind k
    dsimp only at g2
    split at g2
    · rename_i b
      obtain ⟨d, g3, g4⟩ := obind g2
      by_cases hl : i < e1.length
      · rw [if_pos hl] at g4
        cases g4
        obtain ⟨v, hv, S1⟩ := S.look ha
        refine ⟨v, hv, ?_⟩
        have va := S1.see (q := (T.p a, v)) (by simp)
        refine he.ok _ _ _ _ _ _ _ _ _ _ S g1 _ fun w H1 s1 S2 => ?_
        exact hr a b d g3 X.K H1 v w _ (RpD.mono s1 _ va) S2.top fun u hu => q _ _ ((S2.pop.scal hu).put hl) .set
      · rw [if_neg hl] at g4; cases g4
    · cases g2
  · cases k
theorem sc_ipI {h : Int → Int → Int} : Sc2 (ipI h) (gI (fun _ _ => true) h) := by
  intro a b d hg K H v w Q hv hw q
  obtain ⟨i, j, rfl, rfl, h1, rfl⟩ := gI_some hg
  exact ⟨i, j, hv, hw, q _ fun _ => rfl⟩
/-- x[j] op= e of ints, j not negative -/
theorem ds_augIx (i : Nat) {x : Str} {op : Operator} {hh : Int → Int → Int} (ho : PIp X op (ipI hh)) (hj : DT X j tj fj) (h : DT X e te f) (hN : X.N[i]? = some x := by rfl) (hv : Vis X.env.scope x := by first | exact Or.inl rfl | exact Or.inr (Or.inl rfl) | exact Or.inr (Or.inr rfl)) (hd : (x == ("__debug__" : Str)) = false := by decide) (hcd : (x == ("__classdict__" : Str)) = false := by decide)
    (ha : ∀ ov iv new, augStore j ov iv new = (do holding [new, ov, iv] (setItem ov iv new); release [new, ov, iv] []; pure .next) := by intros; rfl) :
    DS X (.AugAssign (.Subscript (.Name x npos) j ipos) op e pos) (tAugS (tVar i) tj te (rGetL X.K) (ipI hh) rSetL) (sAugIx i hh fj f) [] := by
  refine ⟨ps_augS (pe_var hN hv hd hcd) hj.pe get_list h.pe ho set_list ha, ?_⟩
  intro G0 H0 H ts vs env σ fl env' S g D q
  obtain ⟨us0, g1, g2⟩ := obind g
  have he0 := atL_eq g1
  obtain ⟨⟨y, e1⟩, g3, g4⟩ := obind g2
  obtain ⟨k, g5, g6⟩ := obind g4
  have ey : y = .p (.int k) := asI_eq g5
  subst ey
  by_cases h0 : 0 ≤ k
  · rw [if_pos h0] at g6
    obtain ⟨us, g7, g8⟩ := obind g6
    have he1 := atL_eq g7
    obtain ⟨tx, g9, g10⟩ := obind g8
    obtain ⟨x0, g11, g12⟩ := obind g10
    have ex : tx = .p (.int x0) := asI_eq g11
    subst ex
    obtain ⟨⟨z, e2⟩, g13, g14⟩ := obind g12
    obtain ⟨y0, g15, g16⟩ := obind g14
    have ez : z = .p (.int y0) := asI_eq g15
    subst ez
    obtain ⟨us2, g17, g18⟩ := obind g16
    have he2 := atL_eq g17
    obtain ⟨m, g19, g20⟩ := omap g18
    cases g20
    obtain ⟨v, hv1, S1⟩ := S.look he0
    refine ⟨v, hv1, ?_⟩
    refine hj.ok _ _ _ _ _ _ _ _ _ _ S1.unview g3 _ fun z1 H1 s1 S2 => ?_
    have ez1 : z1 = .int k := S2.top
    subst ez1
    obtain ⟨v2, hv2, S3⟩ := S2.pop.look he1
    rw [hv1] at hv2
    cases hv2
    rcases S3.ix (i := k) (show ixT (.lst us) k = some (.p (.int x0)) from g9) with ⟨a, xs, v', q1, q2, qL, q3, S4⟩ | ⟨zz, c, q1, _⟩
    · subst q1
      have hq2 : SqL X.K H1 a xs := qL rfl
      have ev' : v' = .int x0 := S4.see (q := (T.p (.int x0), v')) (by simp)
      subst ev'
      refine ⟨a, xs, k, .int x0, rfl, rfl, hq2, h0, q3, ?_⟩
      refine h.ok _ _ _ _ _ _ _ _ _ _ S4.unview g13 _ fun w2 H2 s2 S5 => ?_
      have ew2 : w2 = .int y0 := S5.top
      refine ⟨x0, y0, rfl, ew2, ?_⟩
      obtain ⟨v3, hv3, S6⟩ := S5.pop.get he2
      rw [hv1] at hv3
      cases hv3
      obtain ⟨a', xs', k1, k2, k3, k4⟩ := OkS.wrL (es := []) (ws := []) S6 rfl
      cases k1
      have g19 : ixN us2.length k = some m := g19
      have hm : m < us2.length := (ixN_seq g19).2.1
      refine ⟨a, xs', k, m, rfl, rfl, k2, by rw [k3]; exact g19, ?_⟩
      have S7 := k4 (us2.set m (.p (.int (hh x0 y0)))) (xs'.set m (.int (hh x0 y0))) fun G o1 o2 r1 r2 => by
        obtain ⟨o', r, f1, f2⟩ := r1.set (i := m) hm (show Rp X.K G H2 (.p (.int (hh x0 y0))) (.int (hh x0 y0)) [] from ⟨rfl, rfl⟩)
        have e2 : o2 = [] := r2.2
        exact ⟨o', r, f1, by rw [e2]; exact f2⟩
      have hlen : i < e2.length := (List.getElem?_eq_some_iff.mp he2).1
      have S8 := S7.put (i := i) (by simpa using hlen)
      rw [List.set_set, set_back hv1] at S8
      exact q _ _ S8 .rfl'
    · obtain ⟨a', xs', k1, k2, _⟩ := S3.see (q := (T.lst us, v)) (by simp)
      rw [q1] at k1; cases k1
  · rw [if_neg h0] at g6; cases g6
end
end DL

set_option Elab.async false
set_option linter.all false
set_option maxRecDepth 100000
namespace DL
open PySem PySem.Spec PyProof.Rows L2

/-! ### comprehensions -/
def wipeE (env : Env) : List Nat → Env
  | [] => env
  | v :: vs => (wipeE env vs).set v none
theorem wipeE_some {env : Env} {j : Nat} {t : T} : ∀ {vs : List Nat}, (wipeE env vs)[j]? = some (some t) → j ∉ vs ∧ env[j]? = some (some t)
  | [], h => ⟨by simp, h⟩
  | v :: vs, h => by
    unfold wipeE at h
    by_cases hj : v = j
    · subst hj
      by_cases hl : v < (wipeE env vs).length
      · rw [List.getElem?_set_self hl] at h; cases h
      · rw [List.getElem?_eq_none (by simpa using hl)] at h; cases h
    · rw [List.getElem?_set_ne hj] at h
      obtain ⟨h1, h2⟩ := wipeE_some h
      exact ⟨by simp [h1, Ne.symm hj], h2⟩
section
variable {K : PySem.W.Frag} {G0 H0 H G H' : Hp} {W : List (T × V)} {ts : List T} {vs : List V} {env : Env} {σ σ' : St} {t : T} {v : V}
theorem RpE.slots : ∀ {es : Env} {σ σ' : St} {o : List Addr}, RpE K G H es σ o → σ'.length = σ.length → (∀ (j : Nat) (t : T), es[j]? = some (some t) → σ'[j]? = σ[j]?) → RpE K G H es σ' o
  | [], σ, σ', o, ⟨h, h2⟩, hl, _ => by
    subst h
    cases σ' with
    | nil => exact ⟨rfl, h2⟩
    | cons _ _ => simp at hl
  | none :: es, _, σ', o, ⟨x, r, h1, h2⟩, hl, hk => by
    subst h1
    cases σ' with
    | nil => simp at hl
    | cons y σ' => exact ⟨y, σ', rfl, RpE.slots h2 (by simpa using hl) fun j t e => by simpa using hk (j + 1) t (by simpa using e)⟩
  | some u :: es, _, σ', o, ⟨x, r, o1, o2, h1, h2, h3, h4⟩, hl, hk => by
    subst h1
    cases σ' with
    | nil => simp at hl
    | cons y σ' =>
      have e : y = some x := by simpa using hk 0 u rfl
      subst e
      exact ⟨x, σ', o1, o2, rfl, h2, RpE.slots h3 (by simpa using hl) (fun j t e => by simpa using hk (j + 1) t (by simpa using e)), h4⟩
theorem OkS.slots (S : OkS K G0 H0 W H ts vs env σ) (hl : σ'.length = σ.length) (hk : ∀ (j : Nat) (t : T), env[j]? = some (some t) → σ'[j]? = σ[j]?) : OkS K G0 H0 W H ts vs env σ' := by
  obtain ⟨G, ot, oe, s⟩ := S
  exact ⟨G, ot, oe, s.tmp, s.env.slots hl hk, s.nd, s.fr, s.g0, s.gh, s.h0, s.nw, s.vw⟩
theorem OkS.forget1 (S : OkS K G0 H0 W H ts vs env σ) (i : Nat) : OkS K G0 H0 W H ts vs (env.set i none) σ := by
  obtain ⟨G, ot, oe, s⟩ := S
  obtain ⟨o1, o2, h, pm⟩ := s.env.drop i
  have pm2 : (ot ++ oe).Perm (o1 ++ (ot ++ o2)) := (List.Perm.append_left ot pm).trans (perm_mid _ _ _)
  exact ⟨G, ot, o2, s.tmp, h, (List.nodup_append.mp (pm2.nodup_iff.mp s.nd)).2.1, fun a ha => s.fr a (pm2.mem_iff.mpr (List.mem_append_right _ ha)), s.g0, s.gh, s.h0, s.nw, s.vw⟩
theorem OkS.forget (S : OkS K G0 H0 W H ts vs env σ) : ∀ l : List Nat, OkS K G0 H0 W H ts vs (wipeE env l) σ
  | [] => S
  | i :: l => (OkS.forget S l).forget1 i
theorem wipe_out' {σ : St} {j : Nat} : ∀ {l : List Nat}, j ∉ l → (wipe σ l)[j]? = σ[j]?
  | [], _ => rfl
  | v :: l, h => by
    simp only [List.mem_cons, not_or] at h
    unfold wipe
    rw [List.getElem?_set_ne (Ne.symm h.1)]
    exact wipe_out' h.2
theorem wipe_in {σ : St} {j : Nat} : ∀ {l : List Nat}, j ∈ l → j < σ.length → (wipe σ l)[j]? = some none
  | [], h, _ => by cases h
  | v :: l, h, hl => by
    unfold wipe
    by_cases e : v = j
    · subst e
      rw [List.getElem?_set_self (by rw [wipe_length]; exact hl)]
    · rw [List.getElem?_set_ne e]
      rcases List.mem_cons.mp h with z | z
      · exact absurd z.symm e
      · exact wipe_in z hl
theorem wipe_eq {σ σ' : St} {l : List Nat} (hl : σ'.length = σ.length) (h : ∀ j, j ∉ l → σ'[j]? = σ[j]?) : wipe σ' l = wipe σ l := by
  apply List.ext_getElem?
  intro j
  by_cases hj : j ∈ l
  · by_cases hlt : j < σ.length
    · rw [wipe_in hj hlt, wipe_in hj (by omega)]
    · rw [List.getElem?_eq_none (by rw [wipe_length]; omega), List.getElem?_eq_none (by rw [wipe_length]; omega)]
  · rw [wipe_out' hj, wipe_out' hj]; exact h j hj
theorem OkS.toWipe (S : OkS K G0 H0 W H ts vs env σ) (l : List Nat) : OkS K G0 H0 W H ts vs (wipeE env l) (wipe σ l) :=
  (S.forget l).slots (wipe_length _ _) fun j t e => wipe_out' (wipeE_some e).1
theorem OkS.fixV (S : OkS K G0 H0 W H ts vs env σ) : ∃ G1, Gst G0 H0 G1 ∧ (∀ q ∈ W, ∃ o, Rp K G1 H q.1 q.2 o) ∧ OkS K G1 H0 [] H ts vs env σ := by
  obtain ⟨G, ot, oe, s⟩ := S
  refine ⟨G, ⟨s.g0, s.nw⟩, s.vw, G, ot, oe, s.tmp, s.env, s.nd, s.fr, Same.refl _, s.gh, s.h0, fun a o e => .inl (by rw [e]; simp), fun q hq => by cases hq⟩
theorem OkS.reV {G1 : Hp} (S : OkS K G1 H0 [] H' ts vs env σ) (h : ∀ q ∈ W, ∃ o, Rp K G1 H q.1 q.2 o) (s1 : Same H H') : OkS K G1 H0 W H' ts vs env σ := by
  obtain ⟨G, ot, oe, s⟩ := S
  refine ⟨G, ot, oe, s.tmp, s.env, s.nd, s.fr, s.g0, s.gh, s.h0, s.nw, fun q hq => ?_⟩
  obtain ⟨o, r⟩ := h q hq
  refine ⟨o, r.mono s.g0 _ fun a ha => ?_⟩
  obtain ⟨u, e, _⟩ := r.there _ a ha
  rw [e, s1 a u e]
end
theorem ItOk.mono {K : PySem.W.Frag} {G1 G2 : Hp} {J : It} {ds : List D} (I : ItOk K G1 J ds) (s : Same G1 G2) : ItOk K G2 J ds where
  go := fun i H h hi => I.go i H (s.trans h) hi
  stop := fun H h => I.stop H (s.trans h)
  yld := fun i H x H' d h hd y => by
    rcases I.yld i H x H' d (s.trans h) hd y with ⟨e, r⟩ | ⟨p, xs, es, h1, h2, h3, h4, h5⟩
    · exact .inl ⟨e, RpD.mono s _ r⟩
    · exact .inr ⟨p, xs, es, h1, h2, h3, h4, RpDs.mono s _ h5⟩
def compD (own : List Nat) (G : GF) (test : CF) (elt : EF) : List D → Env → Option (List T × Env)
  | [], env => some ([], env)
  | d :: ds, env => (G (.p d) env).bind fun e1 => (test e1).bind fun r => if r.1 then (elt r.2).bind fun s => (compD own G test elt ds (wipeE s.2 own)).map fun z => (s.1 :: z.1, z.2)
    else compD own G test elt ds (wipeE r.2 own)
def eComp (own : List Nat) (f : IF) (G : GF) (test : CF) (elt : EF) : EF := fun env => (f env).bind fun r => if r.1.length ≤ 1000000 then (compD own G test elt r.1 (wipeE r.2 own)).map fun z => (.lst z.1, z.2) else none
theorem ev_comp {K : PySem.W.Frag} {wi : TI} {fi : IF} {g : TG} {G : GF} {sl own : List Nat} {tt : TT} {ct : CF} {te : TE} {fe : EF} (hI : EvI K wi fi) (hg : EvG K g G sl) (hsl : ∀ j ∈ sl, j ∈ own) (ht : EvC K tt ct) (he : EvT K te fe) : EvT K (tLc wi g tt te own) (eComp own fi G ct fe) := by
  intro G0 H0 W H ts vs env σ t env' S e Q q
  obtain ⟨⟨ds, e1⟩, g1, g2⟩ := obind e
  by_cases hlen : ds.length ≤ 1000000
  · rw [if_pos hlen] at g2
    obtain ⟨⟨us, e2⟩, g3, g4⟩ := omap g2
    cases g4
    refine hI _ _ _ _ _ _ _ _ _ _ S g1 _ fun J H1 G1 s1 gst I S1 => ?_
    obtain ⟨G2, gst2, hv, S2⟩ := S1.fixV
    have I2 := I.mono gst2.s
    intro D hD
    have S3 : OkS K G2 H0 [] (upd H1 D (.lst [])) (.lst [] :: ts) (.ref D :: vs) (wipeE e1 own) (wipe σ own) := (OkS.newL (us := []) (ws := []) rfl S2 hD).toWipe own
    refine ⟨fun i m H => m = ds.length - i ∧ i ≤ ds.length ∧ Same H1 H ∧ ∃ env acc rest, OkS K G2 H0 [] H (.lst acc :: ts) (.ref D :: vs) env (wipe σ own) ∧ compD own G ct fe (ds.drop i) env = some (rest, e2) ∧ us = acc ++ rest ∧ acc.length ≤ i ∧ (∀ (j : Nat) (t : T), env[j]? = some (some t) → j ∉ own),
      ⟨ds.length, by simp, Nat.zero_le _, same_upd hD, wipeE e1 own, [], us, S3, by simpa using g3, rfl, Nat.le_refl _, fun j t e => (wipeE_some e).1⟩, ?_⟩
    rintro i m Hi ⟨rfl, hle, sm, envi, acc, rest, Si, hc, hu, ha, hw0⟩
    by_cases hlt : i < ds.length
    · refine .inr ⟨I2.go i Hi Si.same hlt, fun H' => i + 1 ≤ ds.length ∧ Same H1 H' ∧ ∃ env acc rest, OkS K G2 H0 [] H' (.lst acc :: ts) (.ref D :: vs) env (wipe σ own) ∧ compD own G ct fe (ds.drop (i + 1)) env = some (rest, e2) ∧ us = acc ++ rest ∧ acc.length ≤ i + 1 ∧ (∀ (j : Nat) (t : T), env[j]? = some (some t) → j ∉ own), fun H' ⟨h1, h2⟩ => ⟨ds.length - (i + 1), by omega, rfl, h1, h2⟩, fun x H3 y => ?_⟩
      obtain ⟨s3, S4⟩ := I2.item Si (List.getElem?_eq_getElem hlt) y
      rw [List.drop_eq_getElem_cons hlt] at hc
      obtain ⟨e3, l1, l2⟩ := obind hc
      obtain ⟨⟨b, e4⟩, l3, l4⟩ := obind l2
      refine hg _ _ _ _ _ _ _ _ _ _ _ S4 l1 _ fun σ2 S5 dif => ?_
      have hw : wipe σ2 own = wipe σ own := by
        refine wipe_eq (dif.1.trans (wipe_length _ _)) fun j hj => (dif.2 j fun z => hj (hsl j z)).trans (wipe_out' hj)
      have again : ∀ {H4 : Hp} {e5 : Env} {acc' : List T}, OkS K G2 H0 [] H4 (.lst acc' :: ts) (.ref D :: vs) e5 σ2 → OkS K G2 H0 [] H4 (.lst acc' :: ts) (.ref D :: vs) (wipeE e5 own) (wipe σ own) := fun S => by
        rw [← hw]; exact S.toWipe own
      refine ⟨hw, ?_⟩
      refine ht _ _ _ _ _ _ _ _ _ _ S5 l3 _ fun H4 s4 S6 => ?_
      cases b with
      | false =>
        rw [if_neg Bool.false_ne_true]
        exact ⟨hlt, (sm.trans s3).trans s4, _, acc, rest, again S6, l4, hu, by omega, fun j t e => (wipeE_some e).1⟩
      | true =>
        rw [if_pos rfl]
        obtain ⟨⟨u, e5⟩, l5, l6⟩ := obind (show (fe e4).bind (fun s => (compD own G ct fe (ds.drop (i + 1)) (wipeE s.2 own)).map fun z => (s.1 :: z.1, z.2)) = some (rest, e2) from l4)
        obtain ⟨⟨zs, e6⟩, l7, l8⟩ := omap l6
        cases l8
        refine he _ _ _ _ _ _ _ _ _ _ S6 l5 _ fun y H5 s5 S7 => ?_
        have S8 : OkS K G2 H0 [] H5 (.lst acc :: ([u] ++ ts)) (.ref D :: ([y] ++ vs)) e5 σ2 := OkS.mid (us := [u]) (ws := [y]) rfl S7 |> fun S => by
          have := OkS.mid (us := [u]) (ws := [y]) (x := .lst acc) (y := .ref D) rfl S7
          exact this
        obtain ⟨a, xs, k1, k2, k3, k4⟩ := OkS.wrL (es := [u]) (ws := [y]) S8 rfl
        cases k1
        refine ⟨xs, k2, by rw [k3, sizeLine_eq]; omega, hlt, ?_, _, acc ++ [u], zs, again (k4 (acc ++ [u]) (xs ++ [y]) fun G o1 o2 r1 r2 => ⟨o1 ++ o2, [], r1.append r2, by simp⟩), l7, by rw [hu]; simp, by simp; omega, fun j t e => (wipeE_some e).1⟩
        intro b ob eb
        have : b ≠ D := fun z => by rw [z, hD] at eb; cases eb
        rw [upd_ne this]
        exact s5 b ob (s4 b ob (s3 b ob (sm b ob eb)))
    · have hi' : i = ds.length := by omega
      subst hi'
      rw [List.drop_length] at hc
      cases hc
      rw [List.append_nil] at hu
      subst hu
      have Sf : OkS K G2 H0 W Hi (.lst us :: ts) (.ref D :: vs) e2 σ := (Si.slots (by rw [wipe_length]) fun j t e => (wipe_out' (hw0 j t e)).symm).reV hv sm
      exact .inl ⟨I2.stop Hi Si.same, q _ Hi (s1.trans sm) ((Sf.back gst2).back gst)⟩
  · rw [if_neg hlen] at g2; cases g2
end DL

set_option Elab.async false
set_option linter.all false
set_option maxRecDepth 100000
namespace DL
open PySem PySem.Spec PyProof.Rows L2
structure DTs (X : Cx) (es : List Expr) (t : TT) (c : CF) : Prop where
  pt : PTs X es t
  ok : EvC X.K t c
def cYes : CF := fun env => some (true, env)
theorem dts_nil {X : Cx} : DTs X [] tYes cYes := ⟨pts_nil, fun _ _ _ H _ _ _ _ _ _ S e Q q => by cases e; exact q H (Same.refl _) S⟩
theorem dts_one {X : Cx} {e : Expr} {t : TT} {c : CF} (h : DC X e t c) : DTs X [e] t c := ⟨pts_one h.pt, h.ok⟩
/-- what a function's own reading asks, whatever the term was -/
def teW (K : PySem.W.Frag) (f : EF) : TE := fun σ H Q => ∃ (G0 H0 : Hp) (W : List (T × V)) (ts : List T) (vs : List V) (env : Env) (t : T) (env' : Env), OkS K G0 H0 W H ts vs env σ ∧ f env = some (t, env') ∧ ∀ v H', Same H H' → OkS K G0 H0 W H' (t :: ts) (v :: vs) env' σ → Q v H'
def ttW (K : PySem.W.Frag) (f : CF) : TT := fun σ H Q => ∃ (G0 H0 : Hp) (W : List (T × V)) (ts : List T) (vs : List V) (env : Env) (c : Bool) (env' : Env), OkS K G0 H0 W H ts vs env σ ∧ f env = some (c, env') ∧ ∀ H', Same H H' → OkS K G0 H0 W H' ts vs env' σ → Q c H'
theorem ev_teW {K : PySem.W.Frag} {f : EF} : EvT K (teW K f) f := fun G0 H0 W H ts vs env σ t env' S e Q q => ⟨G0, H0, W, ts, vs, env, t, env', S, e, q⟩
theorem ev_ttW {K : PySem.W.Frag} {f : CF} : EvC K (ttW K f) f := fun G0 H0 W H ts vs env σ t env' S e Q q => ⟨G0, H0, W, ts, vs, env, t, env', S, e, q⟩
theorem pe_W {X : Cx} {e : Expr} {te : TE} {f : EF} (h : DT X e te f) : PE X e (teW X.K f) := ⟨fun pins s σ H Q I ⟨_, _, _, _, _, _, _, _, S, g, q⟩ => h.pe.run pins s σ H Q I (h.ok _ _ _ _ _ _ _ _ _ _ S g Q q)⟩
theorem pts_W {X : Cx} {e : List Expr} {te : TT} {f : CF} (h : DTs X e te f) : PTs X e (ttW X.K f) := ⟨fun pins s σ H Q I ⟨_, _, _, _, _, _, _, _, S, g, q⟩ => h.pt.run pins s σ H Q I (h.ok _ _ _ _ _ _ _ _ _ _ S g Q q)⟩
def tgW (K : PySem.W.Frag) (G : GF) (sl : List Nat) : TG := fun x σ H Q => ∃ (G0 H0 : Hp) (W : List (T × V)) (ts : List T) (vs : List V) (env : Env) (d : T) (env' : Env), OkS K G0 H0 W H (d :: ts) (x :: vs) env σ ∧ G d env = some env' ∧ ∀ σ', OkS K G0 H0 W H ts vs env' σ' → Dif sl σ σ' → Q σ' H
theorem ev_tgW {K : PySem.W.Frag} {G : GF} {sl : List Nat} : EvG K (tgW K G sl) G sl := fun G0 H0 W H ts vs env σ d x env' S e Q q => ⟨G0, H0, W, ts, vs, env, d, env', S, e, q⟩
theorem pg_W {X : Cx} {e : Expr} {g : TG} {G : GF} {sl : List Nat} (h : DG X e g G sl) : PG X e (tgW X.K G sl) := ⟨fun pins s σ H v u Q I r ⟨_, _, _, _, _, _, _, _, S, g, q⟩ => h.pg.run pins s σ H v u Q I r (h.ok _ _ _ _ _ _ _ _ _ _ _ S g Q q)⟩
section
variable {X : Cx} {elt tg iter : Expr} {ifs : List Expr} {scope : Scope} {own : List (Str × Nat)} {pos spos py : Pos} {wi : TI} {fi : IF} {g : Shared → Hp → Addr → List (Str × Addr) → List Addr → TG} {G : GF} {sl : List Nat} {tt : Shared → Hp → Addr → List (Str × Addr) → List Addr → TT} {ct : CF} {te : Shared → Hp → Addr → List (Str × Addr) → List Addr → TE} {fe : EF} {i : Nat} {y : Str}
theorem dt_comp (hc : X.calm = true) (hN : X.N.Nodup) (hi : DI X tg iter wi fi) (ok : BlkOk X.N X.env.scope scope own)
    (hg : ∀ (s : Shared) (H : Hp) (C : Addr) (cl : List (Str × Addr)) (fp : List Addr), DG (X.blk s H scope (compEnvC scope cl C X.env) fp) tg (g s H C cl fp) G sl) (ht : ∀ (s : Shared) (H : Hp) (C : Addr) (cl : List (Str × Addr)) (fp : List Addr), DTs (X.blk s H scope (compEnvC scope cl C X.env) fp) ifs (tt s H C cl fp) ct)
    (he : ∀ (s : Shared) (H : Hp) (C : Addr) (cl : List (Str × Addr)) (fp : List Addr), DT (X.blk s H scope (compEnvC scope cl C X.env) fp) elt (te s H C cl fp) fe) (hsl : ∀ j ∈ sl, j ∈ own.map (·.2) := by decide) (hs : ∀ x, foldedSetIterable iter X.env x = pure x := by intro _; rfl) :
    DT X (.ListComp elt [⟨tg, iter, ifs, 0⟩] scope pos) (tLc wi (tgW X.K G sl) (ttW X.K ct) (teW X.K fe) (own.map (·.2))) (eComp (own.map (·.2)) fi G ct fe) :=
  ⟨pe_lc hc hN hi.pi ok (fun s H C cl fp => pg_W (hg s H C cl fp)) (fun s H C cl fp => pts_W (ht s H C cl fp)) (fun s H C cl fp => pe_W (he s H C cl fp)) hs,
    ev_comp hi.ok ev_tgW hsl ev_ttW ev_teW⟩
theorem ds_setLc (hc : X.calm = true) (hN : X.N.Nodup) (hy : X.N[i]? = some y) (hyl : X.env.scope.names.lookup y = some .local)
    (hsw : swapsWith (.ListComp elt [⟨tg, iter, ifs, 0⟩] scope pos) (some (.Name y py)) spos.line X.env = pure true) (hi : DI X tg iter wi fi) (ok : BlkOk X.N X.env.scope scope own)
    (hg : ∀ (s : Shared) (H : Hp) (C : Addr) (cl : List (Str × Addr)) (fp : List Addr), DG (X.blk s H scope (compEnvC scope cl C X.env) fp) tg (g s H C cl fp) G sl) (ht : ∀ (s : Shared) (H : Hp) (C : Addr) (cl : List (Str × Addr)) (fp : List Addr), DTs (X.blk s H scope (compEnvC scope cl C X.env) fp) ifs (tt s H C cl fp) ct)
    (he : ∀ (s : Shared) (H : Hp) (C : Addr) (cl : List (Str × Addr)) (fp : List Addr), DT (X.blk s H scope (compEnvC scope cl C X.env) fp) elt (te s H C cl fp) fe) (hsl : ∀ j ∈ sl, j ∈ own.map (·.2) := by decide) (hs : ∀ x, foldedSetIterable iter X.env x = pure x := by intro _; rfl) :
    DS X (.Assign [.Name y py] (.ListComp elt [⟨tg, iter, ifs, 0⟩] scope pos) spos) (tAsg (tLc wi (tgW X.K G sl) (ttW X.K ct) (teW X.K fe) (own.map (·.2))) (gName i)) (sSet i (eComp (own.map (·.2)) fi G ct fe)) [i] :=
  ⟨ps_setLc hc hN hy hyl hsw hi.pi ok (fun s H C cl fp => pg_W (hg s H C cl fp)) (fun s H C cl fp => pts_W (ht s H C cl fp)) (fun s H C cl fp => pe_W (he s H C cl fp)) hs,
    evs_set (ev_comp hi.ok ev_tgW hsl ev_ttW ev_teW)⟩
end
/-! ### enumerate, zip, a text's signs -/
def enumD : Nat → List D → List D
  | _, [] => []
  | i, d :: ds => .tup [.int (i : Int), d] :: enumD (i + 1) ds
theorem enumD_len : ∀ (i : Nat) (ds : List D), (enumD i ds).length = ds.length
  | _, [] => rfl
  | i, d :: ds => by rw [enumD, List.length_cons, enumD_len, List.length_cons]
theorem enumD_get : ∀ (ds : List D) (k i : Nat) (d : D), (enumD k ds)[i]? = some d → ∃ x, ds[i]? = some x ∧ d = .tup [.int ((k + i : Nat) : Int), x]
  | [], _, _, _, h => by simp [enumD] at h
  | x :: ds, k, 0, d, h => by
    simp [enumD] at h
    exact ⟨x, rfl, h.symm⟩
  | x :: ds, k, i + 1, d, h => by
    obtain ⟨y, h1, h2⟩ := enumD_get ds (k + 1) i d (by simpa [enumD] using h)
    exact ⟨y, by simpa using h1, by rw [h2]; congr 4; omega⟩
def zipD : List D → List D → List D
  | d :: ds, e :: es => .tup [d, e] :: zipD ds es
  | _, _ => []
theorem zipD_len : ∀ (ds es : List D), (zipD ds es).length = min ds.length es.length
  | [], es => by simp [zipD]
  | d :: ds, [] => by simp [zipD]
  | d :: ds, e :: es => by rw [zipD, List.length_cons, zipD_len, List.length_cons, List.length_cons]; omega
theorem zipD_get : ∀ (ds es : List D) (i : Nat) (d : D), (zipD ds es)[i]? = some d → ∃ x y, ds[i]? = some x ∧ es[i]? = some y ∧ d = .tup [x, y]
  | [], es, i, d, h => by simp [zipD] at h
  | x :: ds, [], i, d, h => by simp [zipD] at h
  | x :: ds, y :: es, 0, d, h => by
    simp [zipD] at h
    exact ⟨x, y, rfl, rfl, h.symm⟩
  | x :: ds, y :: es, i + 1, d, h => by
    obtain ⟨a, b, h1, h2, h3⟩ := zipD_get ds es i d (by simpa [zipD] using h)
    exact ⟨a, b, by simpa using h1, by simpa using h2, h3⟩
def signsD (s : Str) : List D := s.cps.toList.map fun c => .str ⟨#[c]⟩
section
variable {K : PySem.W.Frag} {G1 : Hp} {a b : Addr} {ds es : List D} {xs ys : List V}
theorem itOk_e (h : SqL K G1 a xs) (hr : RpDs K G1 ds xs) : ItOk K G1 (Ite K a) (enumD 0 ds) where
  go := fun i H s hi => by
    rw [enumD_len] at hi
    exact ⟨xs, xs[i]'(by rw [hr.len]; exact hi), s.seq h, List.getElem?_eq_getElem _⟩
  stop := fun H s => ⟨xs, s.seq h, by rw [hr.len, enumD_len]; exact Nat.le_refl _⟩
  yld := fun i H x H' d s hd y => by
    obtain ⟨p, z, e1, e2, e3, e4⟩ := y
    obtain ⟨w, h1, h2⟩ := enumD_get _ _ _ _ hd
    obtain ⟨v, h3, h4⟩ := hr.get h1
    have := e4 xs (s.seq h)
    rw [h3] at this
    cases this
    refine .inr ⟨p, _, _, e2, e3, e1, h2, ?_⟩
    exact ⟨_, _, rfl, by rw [Nat.zero_add]; exact rfl, z, [], rfl, h4, rfl⟩
theorem itOk_z (h : SqL K G1 a xs) (h' : SqL K G1 b ys) (hr : RpDs K G1 ds xs) (hr' : RpDs K G1 es ys) : ItOk K G1 (Itz K a b) (zipD ds es) where
  go := fun i H s hi => by
    rw [zipD_len] at hi
    exact ⟨xs, ys, xs[i]'(by rw [hr.len]; omega), ys[i]'(by rw [hr'.len]; omega), s.seq h, s.seq h', List.getElem?_eq_getElem _, List.getElem?_eq_getElem _⟩
  stop := fun H s => ⟨xs, ys, s.seq h, s.seq h', by rw [hr.len, hr'.len, zipD_len]; omega⟩
  yld := fun i H x H' d s hd y => by
    obtain ⟨p, z, w, e1, e2, e3, e4, e5⟩ := y
    obtain ⟨u, v, h1, h2, h3⟩ := zipD_get _ _ _ _ hd
    obtain ⟨z', h4, h5⟩ := hr.get h1
    obtain ⟨w', h6, h7⟩ := hr'.get h2
    have q1 := e4 xs (s.seq h)
    have q2 := e5 ys (s.seq h')
    rw [h4] at q1
    rw [h6] at q2
    cases q1
    cases q2
    exact .inr ⟨p, _, _, e2, e3, e1, h3, z, _, rfl, h5, w, [], rfl, h7, rfl⟩
theorem itOk_zt (h : SqT K G1 a xs) (h' : SqT K G1 b ys) (hr : RpDs K G1 ds xs) (hr' : RpDs K G1 es ys) : ItOk K G1 (RZ.ItzT K a b) (zipD ds es) where
  go := fun i H s hi => by
    rw [zipD_len] at hi
    exact ⟨xs, ys, xs[i]'(by rw [hr.len]; omega), ys[i]'(by rw [hr'.len]; omega), Same.sqT s h, Same.sqT s h', List.getElem?_eq_getElem _, List.getElem?_eq_getElem _⟩
  stop := fun H s => ⟨xs, ys, Same.sqT s h, Same.sqT s h', by rw [hr.len, hr'.len, zipD_len]; omega⟩
  yld := fun i H x H' d s hd y => by
    obtain ⟨p, z, w, e1, e2, e3, e4, e5⟩ := y
    obtain ⟨u, v, h1, h2, h3⟩ := zipD_get _ _ _ _ hd
    obtain ⟨z', h4, h5⟩ := hr.get h1
    obtain ⟨w', h6, h7⟩ := hr'.get h2
    have q1 := e4 xs (Same.sqT s h)
    have q2 := e5 ys (Same.sqT s h')
    rw [h4] at q1
    rw [h6] at q2
    cases q1
    cases q2
    exact .inr ⟨p, _, _, e2, e3, e1, h3, z, _, rfl, h5, w, [], rfl, h7, rfl⟩
theorem itOk_s {z : Str} : ItOk K G1 (Its z) (signsD z) where
  go := fun i H s hi => by show i < z.cps.size; simpa [signsD] using hi
  stop := fun H s => by show z.cps.size ≤ _; simp [signsD]
  yld := fun i H x H' d s hd y => by
    obtain ⟨e, c, h1, h2⟩ := y
    refine .inl ⟨e, ?_⟩
    simp only [signsD, List.getElem?_map, Array.getElem?_toList, h1, Option.map_some, Option.some.injEq] at hd
    subst hd
    exact h2
end
def iEn (f : AF) : IF := fun env => (f env).bind fun r => match r.1 with
  | [.p (.lst ds)] => some (enumD 0 ds, r.2)
  | _ => none
def iZp (f : AF) : IF := fun env => (f env).bind fun r => match r.1 with
  | [.p (.lst ds), .p (.lst es)] => some (zipD ds es, r.2)
  | [.p (.tup ds), .p (.tup es)] => some (zipD ds es, r.2)
  | _ => none
def iSg (f : EF) : IF := fun env => (f env).bind fun r => match r.1 with
  | .p (.str z) => some (signsD z, r.2)
  | _ => none
section
variable {X : Cx} {tg e e2 : Expr} {te : TE} {ta : TA} {f : EF} {fa : AF} {p pos tpos : Pos} {elts : List Expr} {kk : Nat}
theorem di_enum (hg : Gl X "enumerate") (hm : X.mg "enumerate" = none) (h : DA X [e] ta fa) (hs : starEach [e] X.env = [(false, eval e X.env)] := by rfl) :
    DI X (.Tuple elts kk tpos) (.Call (.Name "enumerate" p) [e] [] pos) (iEnum X.K ta) (iEn fa) := by
  refine ⟨pi_enum hg hm h.pa hs, ?_⟩
  intro G0 H0 W H ts vs env σ ds env' S g R r
  obtain ⟨⟨us, e1⟩, g1, g2⟩ := obind g
  refine h.ok _ _ _ _ _ _ _ _ _ _ S g1 _ fun ws H1 s1 hl S1 => ?_
  dsimp only at g2
  split at g2
  · rename_i es
    cases g2
    match ws, hl with
    | [w1], _ =>
      obtain ⟨G1, gst, sG, ⟨a, xs, q1, q2, q3⟩, S2⟩ := OkS.fixTop (show OkS X.K G0 H0 W H1 (.p (.lst es) :: ts) (w1 :: vs) _ σ from S1)
      exact ⟨a, xs, by rw [q1], sG.seq (.inl q2), r _ _ G1 s1 gst (itOk_e (.inl q2) q3) S2⟩
  · cases g2
theorem di_zip (hg : Gl X "zip") (hm : X.mg "zip" = none) (h : DA X [e, e2] ta fa) (hs : starEach [e, e2] X.env = (false, eval e X.env) :: starEach [e2] X.env := by rfl) (hpl : (backTo pos (starEach [e2] X.env)).any (·.1) = false := by rfl) :
    DI X (.Tuple elts kk tpos) (.Call (.Name "zip" p) [e, e2] [] pos) (RZ.iZipA X.K ta) (iZp fa) := by
  refine ⟨RZ.pi_zipA hg hm h.pa hs hpl, ?_⟩
  intro G0 H0 W H ts vs env σ ds env' S g R r
  obtain ⟨⟨us, e1⟩, g1, g2⟩ := obind g
  refine h.ok _ _ _ _ _ _ _ _ _ _ S g1 _ fun ws H1 s1 hl S1 => ?_
  dsimp only at g2
  split at g2
  · rename_i d1 d2
    cases g2
    match ws, hl with
    | [w1, w2], _ =>
      obtain ⟨G1, gst, sG, ⟨a, xs, q1, q2, q3⟩, S2⟩ := OkS.fixTop (show OkS X.K G0 H0 W H1 (.p (.lst d1) :: (.p (.lst d2) :: ts)) (w1 :: (w2 :: vs)) _ σ from S1)
      obtain ⟨G2, gst2, sG2, ⟨b, ys, r1, r2, r3⟩, S3⟩ := OkS.fixTop S2
      refine ⟨a, b, xs, ys, by rw [q1, r1], .inl ⟨sG.seq (.inl q2), sG2.seq (.inl r2), r _ _ G2 s1 ⟨gst.s.trans gst2.s, fun a o e => ?_⟩ (itOk_z (gst2.s.seq (.inl q2)) (.inl r2) (RpDs.mono gst2.s _ q3) r3) S3⟩⟩
      rcases gst2.nw a o e with h | h | h
      · cases q : G1 a with
        | none => exact absurd q h
        | some u =>
          have := gst2.s a u q
          rw [e] at this; cases this
          exact gst.nw a o q
      · exact .inr (.inl h)
      · exact .inr (.inr h)
  · rename_i d1 d2
    cases g2
    match ws, hl with
    | [w1, w2], _ =>
      obtain ⟨G1, gst, sG, ⟨a, xs, q1, q2, q3⟩, S2⟩ := OkS.fixTop (show OkS X.K G0 H0 W H1 (.p (.tup d1) :: (.p (.tup d2) :: ts)) (w1 :: (w2 :: vs)) _ σ from S1)
      obtain ⟨G2, gst2, sG2, ⟨b, ys, r1, r2, r3⟩, S3⟩ := OkS.fixTop S2
      refine ⟨a, b, xs, ys, by rw [q1, r1], .inr ⟨tup_seq sG q2, tup_seq sG2 r2, r _ _ G2 s1 ⟨gst.s.trans gst2.s, fun a o e => ?_⟩ (itOk_zt (tup_seq gst2.s q2) (tup_sq r2) (RpDs.mono gst2.s _ q3) r3) S3⟩⟩
      rcases gst2.nw a o e with h | h | h
      · cases q : G1 a with
        | none => exact absurd q h
        | some u =>
          have := gst2.s a u q
          rw [e] at this; cases this
          exact gst.nw a o q
      · exact .inr (.inl h)
      · exact .inr (.inr h)
  · cases g2
theorem di_str (h : DT X e te f) : DI X tg e (iStr te) (iSg f) := by
  refine ⟨pi_str h.pe, ?_⟩
  intro G0 H0 W H ts vs env σ ds env' S g R r
  obtain ⟨⟨t, e1⟩, g1, g2⟩ := obind g
  refine h.ok _ _ _ _ _ _ _ _ _ _ S g1 _ fun v H1 s1 S1 => ?_
  dsimp only at g2
  split at g2
  · rename_i z
    cases g2
    obtain ⟨G1, gst, sG, S2⟩ := OkS.fix S1.pop
    exact ⟨z, S1.top, r _ _ G1 s1 gst itOk_s S2⟩
  · cases g2
end
/-! ### adding of any kind -/
def gAdd : D → D → Option D
  | .int i, .int j => some (.int (i + j))
  | .str s, .str t => if s.length + t.length ≤ 16777216 then some (.str (s ++ t)) else none
  | _, _ => none
def rAddA : R2 := fun x y H Q => (rI0 fun i j => .int (i + j)) x y H Q ∨ ∃ i j, x = .str i ∧ y = .str j ∧ i.length + j.length ≤ sizeLine ∧ Q (.str (i ++ j)) H
theorem op_addA {X : Cx} : OpR X (binaryOp .Add) rAddA := OpR.or op_add op_add_str
theorem sc_add : Sc2 rAddA gAdd := by
  intro a b d h K H v w Q hv hw q
  unfold gAdd at h
  split at h
  · cases h; exact .inl ⟨_, _, hv, hw, q _ fun _ => rfl⟩
  · rename_i s t
    by_cases hs : s.length + t.length ≤ 16777216
    · rw [if_pos hs] at h; cases h
      exact .inr ⟨s, t, hv, hw, by rw [sizeLine_eq]; exact hs, q _ fun _ => rfl⟩
    · rw [if_neg hs] at h; cases h
  · cases h
end DL

set_option Elab.async false
set_option linter.all false
set_option maxRecDepth 100000
namespace DL
open PySem PySem.Spec PyProof.Rows L2

/-! ### the forms that are written -/
def gSub : D → D → Option D := gI (fun _ _ => true) fun i j => i - j
def gAddI : D → D → Option D := gI (fun _ _ => true) fun i j => i + j
def gMul : D → D → Option D := gI mulOk fun i j => i * j
def gDiv : D → D → Option D := gI divOk fun i j => i / j
def gMod : D → D → Option D := gI modOk fun i j => i % j
def gPow : D → D → Option D := gI powOk fun i j => i ^ j.toNat
theorem modOk_ok {i j : Int} (h : modOk i j = true) : 0 < j := of_decide_eq_true h
def cLt : D → D → Option Bool := cmI fun i j => decide (i < j)
def cLe : D → D → Option Bool := cmI fun i j => decide (i ≤ j)
def cGt : D → D → Option Bool := cmI fun i j => decide (j < i)
def cGe : D → D → Option Bool := cmI fun i j => decide (j ≤ i)
def bLt (i j : Int) : Bool := decide (i < j)
def bLe (i j : Int) : Bool := decide (i ≤ j)
def bGt (i j : Int) : Bool := decide (j < i)
def bGe (i j : Int) : Bool := decide (j ≤ i)
def eNeg (f : EF) : EF := fun env => (f env).bind fun r => match r.1 with | .p (.int i) => some (.p (.int (-i)), r.2) | _ => none
section
variable {X : Cx} {a b e : Expr} {ta tb te : TE} {fa fb f : EF} {pos npos : Pos} {i : Nat} {x : Str}
theorem dt_add (ha : DT X a ta fa) (hb : DT X b tb fb) : DT X (.BinOp a .Add b pos) (tOp rAddA ta tb) (eOp gAdd fa fb) := dt_op op_addA sc_add ha hb
theorem dt_sub (ha : DT X a ta fa) (hb : DT X b tb fb) : DT X (.BinOp a .Sub b pos) (tOp (rI0 fun i j => .int (i - j)) ta tb) (eOp gSub fa fb) := dt_op op_sub sc_int0 ha hb
theorem dt_mul (ha : DT X a ta fa) (hb : DT X b tb fb) : DT X (.BinOp a .Mult b pos) (tOp (rI IntMulOk fun i j => .int (i * j)) ta tb) (eOp gMul fa fb) := dt_op op_mulB (sc_int fun _ _ h => mulOk_ok h) ha hb
theorem dt_div (ha : DT X a ta fa) (hb : DT X b tb fb) : DT X (.BinOp a .FloorDiv b pos) (tOp (rI CDivW fun i j => .int (i / j)) ta tb) (eOp gDiv fa fb) := dt_op op_fdivW (sc_int fun _ _ h => divOk_ok h) ha hb
theorem dt_mod (ha : DT X a ta fa) (hb : DT X b tb fb) : DT X (.BinOp a .Mod b pos) (tOp (rI (fun _ j => 0 < j) fun i j => .int (i % j)) ta tb) (eOp gMod fa fb) := dt_op op_mod (sc_int fun _ _ h => modOk_ok h) ha hb
theorem dt_pow (ha : DT X a ta fa) (hb : DT X b tb fb) : DT X (.BinOp a .Pow b pos) (tOp (rI CPow fun i j => .int (i ^ j.toNat)) ta tb) (eOp gPow fa fb) := dt_op op_pow (sc_int fun _ _ h => powOk_ok h) ha hb
theorem dt_neg (h : DT X a ta fa) : DT X (.UnaryOp .USub a pos) (tUn (rU fun i => .int (-i)) ta) (eNeg fa) := by
  refine ⟨pe_un un_neg h.pe, ?_⟩
  intro G0 H0 W H ts vs env σ t env' S e Q q
  obtain ⟨⟨u, e1⟩, h1, h2⟩ := obind e
  dsimp only at h2
  split at h2
  · rename_i k
    cases h2
    exact h.ok _ _ _ _ _ _ _ _ _ _ S h1 _ fun v H1 s1 S1 => ⟨k, S1.top, q _ H1 s1 (S1.pop.scal fun _ => rfl)⟩
  · cases h2
theorem dt_lt (ha : DV X a ta fa) (hb : DV X b tb fb) : DT X (.Compare a [.Lt] [b] pos) (tOp (rI0 fun i j => .bl (decide (i < j))) ta tb) (eCmp cLt fa fb) := dt_cmp (r := fun _ => rI0 fun i j => .bl (decide (i < j))) op_lt cm_int ha hb (nomark _)
theorem dt_le (ha : DV X a ta fa) (hb : DV X b tb fb) : DT X (.Compare a [.LtE] [b] pos) (tOp (rI0 fun i j => .bl (decide (i ≤ j))) ta tb) (eCmp cLe fa fb) := dt_cmp (r := fun _ => rI0 fun i j => .bl (decide (i ≤ j))) op_le cm_int ha hb (nomark _)
theorem dt_gt (ha : DV X a ta fa) (hb : DV X b tb fb) : DT X (.Compare a [.Gt] [b] pos) (tOp (rI0 fun i j => .bl (decide (j < i))) ta tb) (eCmp cGt fa fb) := dt_cmp (r := fun _ => rI0 fun i j => .bl (decide (j < i))) op_gt cm_int ha hb (nomark _)
theorem dt_ge (ha : DV X a ta fa) (hb : DV X b tb fb) : DT X (.Compare a [.GtE] [b] pos) (tOp (rI0 fun i j => .bl (decide (j ≤ i))) ta tb) (eCmp cGe fa fb) := dt_cmp (r := fun _ => rI0 fun i j => .bl (decide (j ≤ i))) op_ge cm_int ha hb (nomark _)
theorem dt_eq (hu : X.A.units + 64 < cLine) (ha : DV X a ta fa) (hb : DV X b tb fb) : DT X (.Compare a [.Eq] [b] pos) (tOp (rEqA X.K) ta tb) (eCmp eqQ fa fb) := dt_cmp (op_eqA hu) cm_eq ha hb (nomark _)
theorem dt_ne (hu : X.A.units + 64 < cLine) (ha : DV X a ta fa) (hb : DV X b tb fb) : DT X (.Compare a [.NotEq] [b] pos) (tOp (rNeA X.K) ta tb) (eCmp neQ fa fb) := dt_cmp (op_neA hu) cm_ne ha hb (nomark _)
theorem dt_is (ha : DV X a ta fa) (hb : DV X b tb fb) : DT X (.Compare a [.Is] [b] pos) (tOp (rIsA X.K) ta tb) (eCmp isN fa fb) := dt_cmp op_isA cm_is ha hb (nomark _)
theorem dt_isNot (ha : DV X a ta fa) (hb : DV X b tb fb) : DT X (.Compare a [.IsNot] [b] pos) (tOp (rIsNotA X.K) ta tb) (eCmp isNotN fa fb) := dt_cmp op_isNotA cm_isNot ha hb (nomark _)
theorem dt_in (ha : DV X a ta fa) (hb : DV X b tb fb) (hm : behindInMarks .In b = false := by with_unfolding_all rfl) : DT X (.Compare a [.In] [b] pos) (tOp (rInA X.K) ta tb) (eCmp inQ fa fb) := dt_cmp op_inA cm_in ha hb hm
theorem dt_notIn (ha : DV X a ta fa) (hb : DV X b tb fb) (hm : behindInMarks .NotIn b = false := by with_unfolding_all rfl) : DT X (.Compare a [.NotIn] [b] pos) (tOp (rNotInA X.K) ta tb) (eCmp notInQ fa fb) := dt_cmp op_notInA cm_notIn ha hb hm
theorem dc_lt (ha : DV X a ta fa) (hb : DV X b tb fb) : DC X (.Compare a [.Lt] [b] pos) (tTest (tOp (rI0 fun i j => .bl (decide (i < j))) ta tb)) (cT (eCmp cLt fa fb)) := dc_cmp (r := fun _ => rI0 fun i j => .bl (decide (i < j))) op_lt cm_int ha hb (nomark _)
theorem dc_le (ha : DV X a ta fa) (hb : DV X b tb fb) : DC X (.Compare a [.LtE] [b] pos) (tTest (tOp (rI0 fun i j => .bl (decide (i ≤ j))) ta tb)) (cT (eCmp cLe fa fb)) := dc_cmp (r := fun _ => rI0 fun i j => .bl (decide (i ≤ j))) op_le cm_int ha hb (nomark _)
theorem dc_gt (ha : DV X a ta fa) (hb : DV X b tb fb) : DC X (.Compare a [.Gt] [b] pos) (tTest (tOp (rI0 fun i j => .bl (decide (j < i))) ta tb)) (cT (eCmp cGt fa fb)) := dc_cmp (r := fun _ => rI0 fun i j => .bl (decide (j < i))) op_gt cm_int ha hb (nomark _)
theorem dc_ge (ha : DV X a ta fa) (hb : DV X b tb fb) : DC X (.Compare a [.GtE] [b] pos) (tTest (tOp (rI0 fun i j => .bl (decide (j ≤ i))) ta tb)) (cT (eCmp cGe fa fb)) := dc_cmp (r := fun _ => rI0 fun i j => .bl (decide (j ≤ i))) op_ge cm_int ha hb (nomark _)
theorem dc_eq (hu : X.A.units + 64 < cLine) (ha : DV X a ta fa) (hb : DV X b tb fb) : DC X (.Compare a [.Eq] [b] pos) (tTest (tOp (rEqA X.K) ta tb)) (cT (eCmp eqQ fa fb)) := dc_cmp (op_eqA hu) cm_eq ha hb (nomark _)
theorem dc_ne (hu : X.A.units + 64 < cLine) (ha : DV X a ta fa) (hb : DV X b tb fb) : DC X (.Compare a [.NotEq] [b] pos) (tTest (tOp (rNeA X.K) ta tb)) (cT (eCmp neQ fa fb)) := dc_cmp (op_neA hu) cm_ne ha hb (nomark _)
theorem dc_is (ha : DV X a ta fa) (hb : DV X b tb fb) : DC X (.Compare a [.Is] [b] pos) (tTest (tOp (rIsA X.K) ta tb)) (cT (eCmp isN fa fb)) := dc_cmp op_isA cm_is ha hb (nomark _)
theorem dc_isNot (ha : DV X a ta fa) (hb : DV X b tb fb) : DC X (.Compare a [.IsNot] [b] pos) (tTest (tOp (rIsNotA X.K) ta tb)) (cT (eCmp isNotN fa fb)) := dc_cmp op_isNotA cm_isNot ha hb (nomark _)
theorem dc_in (ha : DV X a ta fa) (hb : DV X b tb fb) (hm : behindInMarks .In b = false := by with_unfolding_all rfl) : DC X (.Compare a [.In] [b] pos) (tTest (tOp (rInA X.K) ta tb)) (cT (eCmp inQ fa fb)) := dc_cmp op_inA cm_in ha hb hm
theorem dc_notIn (ha : DV X a ta fa) (hb : DV X b tb fb) (hm : behindInMarks .NotIn b = false := by with_unfolding_all rfl) : DC X (.Compare a [.NotIn] [b] pos) (tTest (tOp (rNotInA X.K) ta tb)) (cT (eCmp notInQ fa fb)) := dc_cmp op_notInA cm_notIn ha hb hm
theorem dt_len (hg : Gl X "len") (hm : X.mg "len" = none) (h : DV X a ta fa) (hs : starEach [a] X.env = (false, eval a X.env) :: starEach [] X.env := by rfl) : DT X (.Call (.Name "len" npos) [a] [] pos) (tCB (rLenA X.K) (tCons ta tNil)) (eB1 gLen fa) := dt_b1 call_lenA bi_len hg hm PySem.boot_len h hs
theorem dt_sum (hc : X.calm = true) (hg : Gl X "sum") (hm : X.mg "sum" = none) (h : DV X a ta fa) (hv : bootBuiltins "sum" = some (.builtin "sum") := by decide +kernel) (hs : starEach [a] X.env = (false, eval a X.env) :: starEach [] X.env := by rfl) : DT X (.Call (.Name "sum" npos) [a] [] pos) (tCB (rSum X.K) (tCons ta tNil)) (eB1 gSum fa) := dt_b1 (cr_sum hc) bi_sum hg hm hv h hs
theorem dt_str1 (hg : Gl X "str") (hm : X.mg "str" = none) (h : DV X a ta fa) (hv : bootBuiltins "str" = some (.type "str") := by decide +kernel) (hs : starEach [a] X.env = (false, eval a X.env) :: starEach [] X.env := by rfl) : DT X (.Call (.Name "str" npos) [a] [] pos) (tCB (rStrA X.K) (tCons ta tNil)) (eB1 gStr fa) := dt_ty1 call_strA bi_str hg hm hv h hs
theorem dt_int1 (hg : Gl X "int") (hm : X.mg "int" = none) (h : DV X a ta fa) (hv : bootBuiltins "int" = some (.type "int") := by decide +kernel) (hs : starEach [a] X.env = (false, eval a X.env) :: starEach [] X.env := by rfl) : DT X (.Call (.Name "int" npos) [a] [] pos) (tCB (rIntA X.K) (tCons ta tNil)) (eB1 gInt fa) := dt_ty1 call_intA bi_int hg hm hv h hs
theorem dt_max2 {tr : TA} {fr : AF} (hc : X.calm = true) (hg : Gl X "max") (hm : X.mg "max" = none) (h : DA X [a, b] tr fr) (hv : bootBuiltins "max" = some (.builtin "max") := by decide +kernel) (he : starEach [a, b] X.env = (false, eval a X.env) :: starEach [b] X.env := by rfl) (hpl : (backTo pos (starEach [b] X.env)).any (·.1) = false := by rfl) : DT X (.Call (.Name "max" npos) [a, b] [] pos) (tCB (fun xs H Q => ∃ i j, xs = [.int i, .int j] ∧ Q (.int (if j > i then j else i)) H) tr) (eI2 maxI fr) := dt_i2 (call_max2 hc) hr_max hg hm hv h (by decide) (by decide) he hpl
theorem dt_min2 {tr : TA} {fr : AF} (hc : X.calm = true) (hg : Gl X "min") (hm : X.mg "min" = none) (h : DA X [a, b] tr fr) (hv : bootBuiltins "min" = some (.builtin "min") := by decide +kernel) (he : starEach [a, b] X.env = (false, eval a X.env) :: starEach [b] X.env := by rfl) (hpl : (backTo pos (starEach [b] X.env)).any (·.1) = false := by rfl) : DT X (.Call (.Name "min" npos) [a, b] [] pos) (tCB (fun xs H Q => ∃ i j, xs = [.int i, .int j] ∧ Q (.int (if j < i then j else i)) H) tr) (eI2 minI fr) := dt_i2 (call_min2 hc) hr_min hg hm hv h (by decide) (by decide) he hpl
end
/-! ### the law's end -/
theorem end_law {K : PySem.W.Frag} {H : Hp} {a : Addr} {ns : List Int} {φ : List D → Option T} (h : φ [.lst (ns.map D.int)] = some (.p (.bl true))) (hS : Rd H a (.lst (ns.map V.int))) {E : XK} : spD 1 φ K [.ref a] H (fun v _ => v = .bl true) E := by
  refine ⟨[.lst (ns.map D.int)], _, H, rfl, h, Same.refl _, ⟨.ref a, [], rfl, ⟨a, _, rfl, hS, ?_⟩, rfl⟩, fun v G' H' o _ _ _ r _ _ _ => r.1⟩
  have gen : ∀ ns : List Int, RpDs K H (ns.map D.int) (ns.map V.int) := fun ns => by
    induction ns with
    | nil => rfl
    | cons n ns ih => exact ⟨.int n, _, rfl, rfl, ih⟩
  exact gen ns
end DL

set_option Elab.async false
set_option linter.all false
set_option maxRecDepth 100000
namespace DL
open PySem PySem.Spec PyProof.Rows L2

/-! ### a call whose arguments are looked at alone -/
def EvVs (K : PySem.W.Frag) (ta : TA) (f : AF) : Prop := ∀ (G0 H0 : Hp) (W : List (T × V)) (H : Hp) (ts : List T) (vs : List V) (env : Env) (σ : St) (us : List T) (env' : Env), OkS K G0 H0 W H ts vs env σ → f env = some (us, env') →
  ∀ Q : List V → Hp → Prop, (∀ ws H', Same H H' → ws.length = us.length → OkS K G0 H0 (us.zip ws ++ W) H' ts vs env' σ → Q ws H') → ta σ H Q
structure DVs (X : Cx) (es : List Expr) (ta : TA) (f : AF) : Prop where
  pa : PA X es ta
  ok : EvVs X.K ta f
section
variable {X : Cx} {e : Expr} {es : List Expr} {te : TE} {tr : TA} {f : EF} {fr : AF}
theorem OkS.views {K : PySem.W.Frag} {G0 H0 H : Hp} {W W' : List (T × V)} {ts : List T} {vs : List V} {env : Env} {σ : St} (S : OkS K G0 H0 W H ts vs env σ) (h : ∀ q ∈ W', q ∈ W) : OkS K G0 H0 W' H ts vs env σ := by
  obtain ⟨G, ot, oe, s⟩ := S
  exact ⟨G, ot, oe, s.tmp, s.env, s.nd, s.fr, s.g0, s.gh, s.h0, s.nw, fun q hq => s.vw q (h q hq)⟩
theorem dvs_nil : DVs X [] tNil aN := by
  refine ⟨pa_nil, ?_⟩
  intro G0 H0 W H ts vs env σ us env' S e Q q
  cases e
  exact q [] H (Same.refl _) rfl S
theorem dvs_cons (h : DV X e te f) (hr : DVs X es tr fr) (hs : starEach (e :: es) X.env = (false, eval e X.env) :: starEach es X.env := by rfl) : DVs X (e :: es) (tCons te tr) (aC f fr) := by
  refine ⟨pa_cons h.pe hr.pa hs, ?_⟩
  intro G0 H0 W H ts vs env σ us env' S g Q q
  obtain ⟨⟨x, e1⟩, h1, h2⟩ := obind g
  obtain ⟨⟨y, e2⟩, h3, h4⟩ := omap h2
  cases h4
  refine h.ok _ _ _ _ _ _ _ _ _ _ S h1 _ fun v H1 s1 S1 => ?_
  refine hr.ok _ _ _ _ _ _ _ _ _ _ S1 h3 _ fun ws H2 s2 hl S2 => ?_
  refine q (v :: ws) H2 (s1.trans s2) (by simp [hl]) (S2.views fun q hq => ?_)
  simp only [List.zip_cons_cons, List.cons_append, List.mem_cons, List.mem_append] at hq ⊢
  rcases hq with h | h | h
  · exact .inr (.inl h)
  · exact .inl h
  · exact .inr (.inr h)
end
mutual
def cleanT : T → Bool
  | .p .non => true
  | .p (.bl _) => true
  | .p (.int _) => true
  | .p (.str _) => true
  | .p _ => false
  | .lst ts => cleanTs ts
  | .tup _ => false
  | _ => false
def cleanTs : List T → Bool
  | [] => true
  | t :: ts => cleanT t && cleanTs ts
end
section
variable {K : PySem.W.Frag} {G G' H : Hp}
mutual
theorem Rp.clean : ∀ {t : T} {v : V} {o : List Addr}, cleanT t = true → Rp K G H t v o → Rp K G' H t v o
  | .p .non, _, _, _, h => h
  | .p (.bl _), _, _, _, h => h
  | .p (.int _), _, _, _, h => h
  | .p (.str _), _, _, _, h => h
  | .p (.lst _), _, _, c, _ => by cases c
  | .p (.tup _), _, _, c, _ => by cases c
  | .p (.dic _), _, _, c, _ => by cases c
  | .p (.dit _), _, _, c, _ => by cases c
  | .p (.obj _ _), _, _, c, _ => by cases c
  | .p (.al _), _, _, c, _ => by cases c
  | .lst ts, _, _, c, ⟨a, vs, o', h1, h2, h3, h4⟩ => ⟨a, vs, o', h1, h2, RpTs.clean (show cleanTs ts = true from c) h3, h4⟩
  | .tup _, _, _, c, _ => by cases c
  | .dic _, _, _, c, _ => by cases c
  | .dit _, _, _, c, _ => by cases c
  | .obj _ _, _, _, c, _ => by cases c
  | .box _ _, _, _, c, _ => by cases c
  | .al _, _, _, c, _ => by cases c
theorem RpTs.clean : ∀ {ts : List T} {vs : List V} {o : List Addr}, cleanTs ts = true → RpTs K G H ts vs o → RpTs K G' H ts vs o
  | [], _, _, _, h => h
  | t :: ts, _, _, c, ⟨v, r, o1, o2, h1, h2, h3, h4⟩ => by
    have c' : (cleanT t && cleanTs ts) = true := c
    rw [Bool.and_eq_true] at c'
    exact ⟨v, r, o1, o2, h1, Rp.clean c'.1 h2, RpTs.clean c'.2 h3, h4⟩
end
end
def eCallB (φ : List D → Option T) (fa : AF) : EF := fun env => (fa env).bind fun r => (φ (T.toDs r.1)).bind fun t => if cleanT t then some (t, r.2) else none
theorem rpDs_views {K : PySem.W.Frag} {H : Hp} : ∀ {us : List T} {ws : List V}, ws.length = us.length → (∀ q ∈ us.zip ws, RpD K H q.1.toD q.2) → RpDs K H (T.toDs us) ws
  | [], [], _, _ => rfl
  | u :: us, w :: ws, hl, h => ⟨w, ws, rfl, h (u, w) (by simp), rpDs_views (by simpa using hl) fun q hq => h q (by simp [hq])⟩
  | [], _ :: _, hl, _ => by simp at hl
  | _ :: _, [], hl, _ => by simp at hl
theorem ev_callB {K : PySem.W.Frag} {n : Nat} {φ : List D → Option T} {ta : TA} {fa : AF} (hφ : ∀ ds t, φ ds = some t → ds.length = n) (ha : EvVs K ta fa) : EvT K (tCall (spD n φ K) [] E0 ta) (eCallB φ fa) := by
  intro G0 H0 W H ts vs env σ t env' S g Q q
  obtain ⟨⟨us, e1⟩, g1, g2⟩ := obind g
  obtain ⟨t', g3, g4⟩ := obind g2
  by_cases hc : cleanT t' = true
  · rw [if_pos hc] at g4
    cases g4
    refine ha _ _ _ _ _ _ _ _ _ _ S g1 _ fun ws H1 s1 hl S1 => ?_
    have hds := rpDs_views hl fun q hq => S1.see (List.mem_append_left _ hq)
    have S2 := S1.views (W' := W) fun q hq => List.mem_append_right _ hq
    obtain ⟨G, ot, oe, s⟩ := S2
    refine ⟨T.toDs us, t, H1, hφ _ _ g3, g3, Same.refl _, by rw [List.append_nil]; exact hds, fun v G' H' o h1 h2 h3 h4 h5 h6 h7 => ?_⟩
    refine q v H' (s1.trans h3) (OkS.called s (Same.refl G) (fun b u e => h3 b u (s.gh b u e)) h3 (h4.clean hc) h5 (fun a ha => ⟨Same.none s.gh (h6 a ha).2, (h6 a ha).2⟩) fun a u e => .inl (by rw [e]; simp))
  · rw [if_neg hc] at g4; cases g4
theorem dt_callB {X : Cx} {k : Nat} {f : Addr} {fd : FuncData} {ps : List Str} {n : Nat} {φ : List D → Option T} {x : Str} {p pos : Pos} {e : Expr} {es : List Expr} {ta : TA} {fa : AF}
    (hφ : ∀ ds t, φ ds = some t → ds.length = n) (F : FnOk X.prog X.w X.K X.mg X.base CX0 k f fd ps (spD n φ X.K)) (hr : Room k X.A) (hg : Gl X x) (hm : X.mg x = some (.ref f)) (hk : PySem.W.keepIn X.K (.ref f) = true) (hb : Binds X.K fd ps [])
    (ha : DVs X (e :: es) ta fa) (hdb : (x == ("__debug__" : Str)) = false := by decide) (he : starEach (e :: es) X.env = (false, eval e X.env) :: starEach es X.env := by rfl) (hpl : (backTo pos (starEach es X.env)).any (·.1) = false := by rfl) :
    DT X (.Call (.Name x p) (e :: es) [] pos) (tCall (spD n φ X.K) [] E0 ta) (eCallB φ fa) := ⟨pe_call F hr hg hm hk hb .nil pass0 ha.pa hdb he hpl, ev_callB hφ ha.ok⟩
theorem dt_call0 {X : Cx} {k : Nat} {f : Addr} {fd : FuncData} {ps : List Str} {n : Nat} {φ : List D → Option T} {x : Str} {p pos : Pos}
    (hφ : ∀ ds t, φ ds = some t → ds.length = n) (F : FnOk X.prog X.w X.K X.mg X.base CX0 k f fd ps (spD n φ X.K)) (hr : Room k X.A) (hg : Gl X x) (hm : X.mg x = some (.ref f)) (hk : PySem.W.keepIn X.K (.ref f) = true) (hb : Binds X.K fd ps [])
    (hdb : (x == ("__debug__" : Str)) = false := by decide) :
    DT X (.Call (.Name x p) [] [] pos) (tCall (spD n φ X.K) [] E0 tNil) (eCall φ aN) := ⟨pe_call0 F hr hg hm hk hb .nil pass0 hdb, ev_call hφ da_nil.ok⟩
/-! ### a walk over a list that stays its holder's -/
def sForV (i : Nat) (G : GF) (body : SF) : SF := fun env => (atL env i).bind fun us => (allP us).bind fun ds => (loopD G body ds (env.set i none)).map fun r => (r.1, match r.1 with
  | .rt _ => r.2
  | _ => r.2.set i (some (.lst us)))
theorem ds_forV {X : Cx} {tg : Expr} {body : List Stmt} {g : TG} {G : GF} {tb : TS} {F : SF} {pos npos : Pos} {sl sl2 : List Nat} (i : Nat) {x : Str} (hp : PassesOwn (model X.prog X.w) X.A X.env X.xe) (hc : X.calm = true) (hg : DG X tg g G sl) (hb : DSs X body tb F sl2) (hi : i ∉ sl ++ sl2)
    (hN : X.N[i]? = some x := by rfl) (hv : Vis X.env.scope x := by first | exact Or.inl rfl | exact Or.inr (Or.inl rfl) | exact Or.inr (Or.inr rfl)) (hd : (x == ("__debug__" : Str)) = false := by decide) (hcd : (x == ("__classdict__" : Str)) = false := by decide)
    (hs : ∀ z, foldedSetIterable (.Name x npos) X.env z = pure z := by intro _; rfl) : DS X (.For tg (.Name x npos) body [] pos) (tFor (iList X.K (tVar i)) g tb) (sForV i G F) (sl ++ sl2) := by
  refine ⟨ps_for hp hc (pi_list (pe_var hN hv hd hcd)) hg.pg hb.ps hs, ?_⟩
  intro G0 H0 H ts vs env σ fl env' S e D q
  obtain ⟨us, g1, g2⟩ := obind e
  obtain ⟨ds, g3, g4⟩ := obind g2
  obtain ⟨⟨fl2, e2⟩, g5, g6⟩ := omap g4
  have hus := allP_eq g3
  subst hus
  have he := atL_eq g1
  obtain ⟨v, hv1, S1⟩ := S.get he
  have hlen : i < σ.length := (List.getElem?_eq_some_iff.mp hv1).1
  -- what stands in the list
  have cell : ∀ {H1 : Hp} {env1 : Env} {σ1 : St}, OkS X.K G0 H0 [] H1 (.lst (ds.map T.p) :: ts) (v :: vs) env1 σ1 → ∃ a xs, v = .ref a ∧ H1 a = some (.lst xs) ∧ xs.length = ds.length ∧ ∀ (k : Nat) (d : DL.D), ds[k]? = some d → ∃ w, xs[k]? = some w ∧ OkS X.K G0 H0 [] H1 (.p d :: .lst (ds.map T.p) :: ts) (w :: v :: vs) env1 σ1 := fun {H1 env1 σ1} S => by
    obtain ⟨G, ot, oe, s⟩ := S
    obtain ⟨u, r, o1, o2, h1, ⟨a, xs, o', k1, k2, k3, k4⟩, h3, h4⟩ := id s.tmp
    cases h1
    obtain ⟨k5, k6⟩ := rpDs_of k3
    refine ⟨a, xs, k1, k2, k5.len, fun k d hd => ?_⟩
    obtain ⟨w, w1, w2⟩ := k5.get hd
    exact ⟨w, w1, G, ot, oe, ⟨w, _, [], ot, rfl, ⟨w2, rfl⟩, s.tmp, rfl⟩, s.env, s.nd, s.fr, s.g0, s.gh, s.h0, s.nw, s.vw⟩
  obtain ⟨a, xs0, ev, hx0, _⟩ := cell S1
  subst ev
  refine ⟨.ref a, hv1, a, rfl, ⟨xs0, .inl (.inl hx0)⟩, ?_⟩
  refine ⟨fun k m σ2 H => m = ds.length - k ∧ k ≤ ds.length ∧ Dif (sl ++ sl2) σ σ2 ∧ ∃ env, OkS X.K G0 H0 [] H (.lst (ds.map T.p) :: ts) (.ref a :: vs) env σ2 ∧ loopD G F (ds.drop k) env = some (fl2, e2), ⟨ds.length, by simp, Nat.zero_le _, .rfl', _, S1, by simpa using g5⟩, ?_⟩
  rintro k m σ2 H2 ⟨rfl, hle, df, env2, S2, hl⟩
  obtain ⟨a', xs, ea, hx, hxl, hit⟩ := cell S2
  cases ea
  have fin : ∀ (fl : Fl) (env3 : Env) (H3 : Hp) (σ3 : St), (fl2, e2) = (.nx, env3) → OkS X.K G0 H0 [] H3 (.lst (ds.map T.p) :: ts) (.ref a :: vs) env3 σ3 → Dif (sl ++ sl2) σ σ3 → D.nx σ3 H3 := fun _ env3 H3 σ3 e S3 df3 => by
    cases e
    cases g6
    have h3 : σ3[i]? = some (some (.ref a)) := (df3.2 i hi).trans hv1
    have S4 := S3.put (i := i) (by have := S3.len; rw [df3.1] at this; omega)
    rw [set_back h3] at S4
    exact q H3 σ3 S4 df3
  by_cases hlt : k < ds.length
  · obtain ⟨w, hw, S3⟩ := hit k ds[k] (List.getElem?_eq_getElem hlt)
    refine .inr ⟨⟨xs, w, .inl (.inl hx), hw⟩, fun σ' H' => k + 1 ≤ ds.length ∧ Dif (sl ++ sl2) σ σ' ∧ ∃ env, OkS X.K G0 H0 [] H' (.lst (ds.map T.p) :: ts) (.ref a :: vs) env σ' ∧ loopD G F (ds.drop (k + 1)) env = some (fl2, e2), fun σ' H' ⟨h1, h2⟩ => ⟨ds.length - (k + 1), by omega, rfl, h1, h2⟩, fun y H3 hy => ?_⟩
    obtain ⟨eH, hy⟩ := hy
    subst eH
    have ey : w = y := Option.some.inj (hw.symm.trans (hy xs (.inl (.inl hx))))
    subst ey
    rw [List.drop_eq_getElem_cons hlt] at hl
    obtain ⟨e3, l1, l2⟩ := obind hl
    obtain ⟨⟨fl3, e4⟩, l3, l4⟩ := obind l2
    refine hg.ok _ _ _ _ _ _ _ _ _ _ _ S3 l1 _ fun σ' S' f1 => ?_
    refine hb.ok _ _ _ _ _ _ _ _ _ S' l3 _ ?_
    cases fl3 with
    | nx => exact fun H' σ4 S4 f2 => ⟨hlt, df.two (f1.tr f2), e4, S4, l4⟩
    | ct => exact fun H' σ4 S4 f2 => ⟨hlt, df.two (f1.tr f2), e4, S4, l4⟩
    | bk => exact fun H' σ4 S4 f2 => fin .nx e4 H' σ4 (Option.some.inj l4).symm S4 (df.two (f1.tr f2))
    | rt t =>
      have e5 : (Fl.rt t, e4) = (fl2, e2) := Option.some.inj l4
      cases e5
      cases g6
      refine fun u H' σ4 S4 f2 => q u H' σ4 ?_ (df.two (f1.tr f2))
      have S5 := OkS.mid (us := [t]) (ws := [u]) (x := .lst (ds.map T.p)) (y := .ref a) rfl S4
      exact OkS.pop S5
  · have hk : k = ds.length := by omega
    subst hk
    rw [List.drop_length] at hl
    exact .inl ⟨⟨xs, .inl (.inl hx), by omega⟩, fin .nx env2 H2 σ2 (Option.some.inj hl).symm S2 df⟩
end DL

set_option Elab.async false
set_option linter.all false
set_option maxRecDepth 100000
/-! What the functions on data give, step by step. -/
namespace DL
open PySem PySem.Spec PyProof.Rows L2
section
variable {env : Env} {i j : Int} {a b : D} {t : T} {f g : EF}
theorem gAdd_i : gAdd (.int i) (.int j) = some (.int (i + j)) := rfl
theorem gAdd_s {s u : Str} (h : s.length + u.length ≤ 16777216) : gAdd (.str s) (.str u) = some (.str (s ++ u)) := if_pos h
theorem gSub_i : gSub (.int i) (.int j) = some (.int (i - j)) := rfl
theorem gAddI_i : gAddI (.int i) (.int j) = some (.int (i + j)) := rfl
theorem gMul_l (h1 : -18446744073709551616 < i) (h2 : i < 18446744073709551616) : gMul (.int i) (.int j) = some (.int (i * j)) := if_pos (by unfold mulOk; exact decide_eq_true (.inl ⟨h1, h2⟩))
theorem gMul_r (h1 : -18446744073709551616 < j) (h2 : j < 18446744073709551616) : gMul (.int i) (.int j) = some (.int (i * j)) := if_pos (by unfold mulOk; exact decide_eq_true (.inr (.inl ⟨h1, h2⟩)))
theorem gMul_b (h : Builtin.Int.intBits i + Builtin.Int.intBits j ≤ 134217728) : gMul (.int i) (.int j) = some (.int (i * j)) := if_pos (by unfold mulOk; exact decide_eq_true (.inr (.inr h)))
theorem gDiv_i (h1 : 0 < j) (h2 : j < 1606938044258990275541962092341162602522202993782792835301376) : gDiv (.int i) (.int j) = some (.int (i / j)) := if_pos (by unfold divOk; exact decide_eq_true ⟨h1, h2⟩)
theorem gMod_i (h1 : 0 < j) : gMod (.int i) (.int j) = some (.int (i % j)) := if_pos (by unfold modOk; exact decide_eq_true h1)
theorem gPow_i (h1 : 0 ≤ j) (h2 : j ≤ 1000) (h3 : 0 ≤ i) (h4 : i < 18446744073709551616) : gPow (.int i) (.int j) = some (.int (i ^ j.toNat)) := if_pos (by unfold powOk; exact decide_eq_true ⟨h1, h2, h3, h4⟩)
theorem cLt_i : cLt (.int i) (.int j) = some (decide (i < j)) := rfl
theorem cLe_i : cLe (.int i) (.int j) = some (decide (i ≤ j)) := rfl
theorem cGt_i : cGt (.int i) (.int j) = some (decide (j < i)) := rfl
theorem cGe_i : cGe (.int i) (.int j) = some (decide (j ≤ i)) := rfl
theorem eqQ_i : eqQ (.int i) (.int j) = some (decide (i = j)) := by
  show (if scal (.int i) (.int j) = true then some (decide (V.int i = V.int j)) else none) = _
  rw [if_pos (show scal _ _ = true from rfl)]
  simp
theorem neQ_i : neQ (.int i) (.int j) = some (!decide (i = j)) := by unfold neQ; rw [eqQ_i]; rfl
theorem eqQ_s {s u : Str} : eqQ (.str s) (.str u) = some (decide (s = u)) := by
  show (if scal (.str s) (.str u) = true then some (decide (V.str s = V.str u)) else none) = _
  rw [if_pos (show scal _ _ = true from rfl)]
  simp
theorem neQ_s {s u : Str} : neQ (.str s) (.str u) = some (!decide (s = u)) := by unfold neQ; rw [eqQ_s]; rfl
theorem eqQ_b {s u : Bool} : eqQ (.bl s) (.bl u) = some (decide (s = u)) := by
  show (if scal (.bl s) (.bl u) = true then some (decide (V.bl s = V.bl u)) else none) = _
  rw [if_pos (show scal _ _ = true from rfl)]
  simp
theorem neQ_b {s u : Bool} : neQ (.bl s) (.bl u) = some (!decide (s = u)) := by unfold neQ; rw [eqQ_b]; rfl
/-- lists of ints -/
theorem toPys_ints : ∀ ns : List Int, toPys (ns.map D.int) = some (ns.map PyData.int)
  | [] => rfl
  | n :: ns => by
    show (toPy (.int n)).bind (fun p => (toPys (ns.map D.int)).map (p :: ·)) = _
    rw [toPys_ints ns]; rfl
theorem canLay_ints : ∀ ns : List Int, PyData.canLayAll0 (ns.map PyData.int) = true
  | [] => rfl
  | n :: ns => by show (PyData.canLay0 (.int n) && PyData.canLayAll0 (ns.map PyData.int)) = true; rw [canLay_ints ns]; rfl
theorem depth_ints : ∀ ns : List Int, PyData.depthAll (ns.map PyData.int) = 0
  | [] => rfl
  | n :: ns => by show max (PyData.depth (.int n)) (PyData.depthAll (ns.map PyData.int)) = 0; rw [depth_ints ns]; rfl
theorem shaped_ints (ns : List Int) : SeqAt.shaped (.list (ns.map PyData.int)) = true := by
  unfold SeqAt.shaped
  rw [show PyData.canLay0 (.list (ns.map PyData.int)) = PyData.canLayAll0 (ns.map PyData.int) from rfl, canLay_ints, show PyData.depth (.list (ns.map PyData.int)) = PyData.depthAll (ns.map PyData.int) + 1 from rfl, depth_ints]
  rfl
theorem eqvAll_ints : ∀ ns ms : List Int, PyData.eqvAll (ns.map PyData.int) (ms.map PyData.int) = decide (ns = ms)
  | [], [] => rfl
  | [], m :: ms => rfl
  | n :: ns, [] => rfl
  | n :: ns, m :: ms => by
    show (PyData.eqv (.int n) (.int m) && PyData.eqvAll (ns.map PyData.int) (ms.map PyData.int)) = _
    rw [eqvAll_ints ns ms]
    show ((n == m) && decide (ns = ms)) = _
    rw [Bool.eq_iff_iff]; simp
theorem eqQ_ints {ns ms : List Int} : eqQ (.lst (ns.map D.int)) (.lst (ms.map D.int)) = some (decide (ns = ms)) := by
  show eqDeep _ _ = _
  unfold eqDeep
  rw [show toPy (.lst (ns.map D.int)) = some (.list (ns.map PyData.int)) by show (toPys _).map _ = _; rw [toPys_ints]; rfl, show toPy (.lst (ms.map D.int)) = some (.list (ms.map PyData.int)) by show (toPys _).map _ = _; rw [toPys_ints]; rfl]
  show (if (SeqAt.shaped _ && SeqAt.shaped _) = true then some (PyData.eqv _ _) else none) = _
  rw [shaped_ints, shaped_ints, if_pos (show (true && true) = true from rfl)]
  exact congrArg some (eqvAll_ints ns ms)
theorem neQ_ints {ns ms : List Int} : neQ (.lst (ns.map D.int)) (.lst (ms.map D.int)) = some (!decide (ns = ms)) := by unfold neQ; rw [eqQ_ints]; rfl
theorem allP_map (ds : List D) : allP (ds.map T.p) = some ds := by
  induction ds with
  | nil => rfl
  | cons d ds ih => simp [allP, ih]
theorem itemsT_l {ds : List D} : itemsT (.lst (ds.map T.p)) = some ds := allP_map ds
theorem toD_l {ds : List D} : (T.lst (ds.map T.p)).toD = .lst ds := by show D.lst (T.toDs _) = _; rw [toDs_p]
theorem gSum_p {ns : List Int} : gSum (.p (.lst (ns.map D.int))) = some (.int ns.sum) := by
  show (intsD (ns.map D.int)).map _ = _
  rw [intsD_map]; rfl
theorem gSum_l {ns : List Int} : gSum (.lst ((ns.map D.int).map T.p)) = some (.int ns.sum) := by
  unfold gSum
  rw [toD_l]
  show (intsD (ns.map D.int)).map _ = _
  rw [intsD_map]; rfl
theorem gLen_p {ds : List D} : gLen (.p (.lst ds)) = some (.int ds.length) := rfl
theorem gLen_l {ts : List T} : gLen (.lst ts) = some (.int ts.length) := rfl
end
theorem atI_0 {α : Type} {x0 : α} {xs : List α} : atI (x0 :: xs) 0 = some x0 := atI_nat (j := 0) rfl
theorem atI_1 {α : Type} {x0 x1 : α} {xs : List α} : atI (x0 :: x1 :: xs) 1 = some x1 := atI_nat (j := 1) rfl
theorem atI_2 {α : Type} {x0 x1 x2 : α} {xs : List α} : atI (x0 :: x1 :: x2 :: xs) 2 = some x2 := atI_nat (j := 2) rfl
theorem atI_3 {α : Type} {x0 x1 x2 x3 : α} {xs : List α} : atI (x0 :: x1 :: x2 :: x3 :: xs) 3 = some x3 := atI_nat (j := 3) rfl
theorem atI_4 {α : Type} {x0 x1 x2 x3 x4 : α} {xs : List α} : atI (x0 :: x1 :: x2 :: x3 :: x4 :: xs) 4 = some x4 := atI_nat (j := 4) rfl
theorem atI_5 {α : Type} {x0 x1 x2 x3 x4 x5 : α} {xs : List α} : atI (x0 :: x1 :: x2 :: x3 :: x4 :: x5 :: xs) 5 = some x5 := atI_nat (j := 5) rfl
theorem atI_6 {α : Type} {x0 x1 x2 x3 x4 x5 x6 : α} {xs : List α} : atI (x0 :: x1 :: x2 :: x3 :: x4 :: x5 :: x6 :: xs) 6 = some x6 := atI_nat (j := 6) rfl
theorem ixT_lst {ts : List T} {i : Int} : ixT (.lst ts) i = atI ts i := rfl
theorem ixT_pl {ds : List D} {i : Int} : ixT (.p (.lst ds)) i = (atI ds i).map T.p := rfl
theorem ixT_pt {ds : List D} {i : Int} : ixT (.p (.tup ds)) i = (atI ds i).map T.p := rfl
theorem atI_map {α β : Type} (f : α → β) (xs : List α) (i : Int) : atI (xs.map f) i = (atI xs i).map f := by
  unfold atI
  rw [List.length_map]
  cases ixN xs.length i with
  | none => rfl
  | some j => show (xs.map f)[j]? = (xs[j]?).map f; rw [List.getElem?_map]
/-- a walk through a whole list: what holds ahead of each turn -/
theorem loop_inv {G : GF} {body : SF} (P : Nat → Env → Prop) : ∀ (ds : List D) (k : Nat) (env : Env), P k env → (∀ (i : Nat) (d : D) (e : Env), ds[i]? = some d → P (k + i) e → ∃ e1 e2, G (.p d) e = some e1 ∧ body e1 = some (.nx, e2) ∧ P (k + i + 1) e2) →
    ∃ e', loopD G body ds env = some (.nx, e') ∧ P (k + ds.length) e'
  | [], k, env, h0, _ => ⟨env, rfl, h0⟩
  | d :: ds, k, env, h0, hs => by
    obtain ⟨e1, e2, h1, h2, h3⟩ := hs 0 d env rfl h0
    obtain ⟨e', h4, h5⟩ := loop_inv P ds (k + 1) e2 h3 fun i d e hd hp => by
      have := hs (i + 1) d e (by simpa using hd) (by rw [show k + (i + 1) = k + 1 + i by omega]; exact hp)
      rw [show k + (i + 1) + 1 = k + 1 + i + 1 by omega] at this
      exact this
    refine ⟨e', ?_, by rw [List.length_cons, show k + (ds.length + 1) = k + 1 + ds.length by omega]; exact h5⟩
    show (G (.p d) env).bind _ = _
    rw [h1]
    show (body e1).bind _ = _
    rw [h2]
    exact h4
/-- a comprehension that keeps all -/
theorem comp_map {own : List Nat} {G : GF} {test : CF} {elt : EF} {env : DL.Env} (f : D → T) : ∀ ds : List D, (∀ d ∈ ds, ∃ e1 e2 e3, G (.p d) env = some e1 ∧ test e1 = some (true, e2) ∧ elt e2 = some (f d, e3) ∧ wipeE e3 own = env) → compD own G test elt ds env = some (ds.map f, env)
  | [], _ => rfl
  | d :: ds, h => by
    obtain ⟨e1, e2, e3, h1, h2, h3, h4⟩ := h d (by simp)
    have ih := comp_map f ds fun x hx => h x (by simp [hx])
    simp only [compD, h1, h2, h3, h4, ih, Option.bind_some, Option.map_some, ↓reduceIte, List.map_cons]
/-- .. that keeps some -/
theorem comp_filter {own : List Nat} {G : GF} {test : CF} {elt : EF} {env : DL.Env} (p : D → Bool) (f : D → T) : ∀ ds : List D, (∀ d ∈ ds, ∃ e1 e2, G (.p d) env = some e1 ∧ test e1 = some (p d, e2) ∧ (p d = true → ∃ e3, elt e2 = some (f d, e3) ∧ wipeE e3 own = env) ∧ (p d = false → wipeE e2 own = env)) → compD own G test elt ds env = some ((ds.filter p).map f, env)
  | [], _ => rfl
  | d :: ds, h => by
    obtain ⟨e1, e2, h1, h2, h3, h4⟩ := h d (by simp)
    have ih := comp_filter p f ds fun x hx => h x (by simp [hx])
    cases hp : p d with
    | true =>
      obtain ⟨e3, h5, h6⟩ := h3 hp
      simp only [compD, h1, h2, hp, h5, h6, ih, Option.bind_some, Option.map_some, ↓reduceIte, List.filter_cons_of_pos, List.map_cons]
    | false =>
      rw [List.filter_cons_of_neg (by rw [hp]; exact Bool.false_ne_true)]
      simp only [compD, h1, h2, hp, h4 hp, ih, Option.bind_some, Bool.false_eq_true, ↓reduceIte]
/-- .. over a written image of a list, with tests and items that change no names -/
theorem comp_img {α : Type} {own : List Nat} {G : GF} {test : CF} {elt : EF} {env : DL.Env} (dd : α → D) (e1 : α → DL.Env) (f : α → T) (xs : List α) (h : ∀ x ∈ xs, G (.p (dd x)) env = some (e1 x) ∧ test (e1 x) = some (true, e1 x) ∧ elt (e1 x) = some (f x, e1 x) ∧ wipeE (e1 x) own = env) : compD own G test elt (xs.map dd) env = some (xs.map f, env) := by
  induction xs with
  | nil => rfl
  | cons x xs ih =>
    obtain ⟨h1, h2, h3, h4⟩ := h x (by simp)
    have ih := ih fun y hy => h y (by simp [hy])
    simp only [List.map_cons, compD, h1, h2, h3, h4, ih, Option.bind_some, Option.map_some, ↓reduceIte]
theorem comp_imgF {α : Type} {own : List Nat} {G : GF} {test : CF} {elt : EF} {env : DL.Env} (dd : α → D) (e1 : α → DL.Env) (p : α → Bool) (f : α → T) (xs : List α) (h : ∀ x ∈ xs, G (.p (dd x)) env = some (e1 x) ∧ test (e1 x) = some (p x, e1 x) ∧ (p x = true → elt (e1 x) = some (f x, e1 x)) ∧ wipeE (e1 x) own = env) : compD own G test elt (xs.map dd) env = some ((xs.filter p).map f, env) := by
  induction xs with
  | nil => rfl
  | cons x xs ih =>
    obtain ⟨h1, h2, h3, h4⟩ := h x (by simp)
    have ih := ih fun y hy => h y (by simp [hy])
    cases hp : p x with
    | true => simp only [List.map_cons, compD, h1, h2, hp, h3 hp, h4, ih, Option.bind_some, Option.map_some, ↓reduceIte, List.filter_cons_of_pos]
    | false =>
      rw [List.filter_cons_of_neg (by rw [hp]; exact Bool.false_ne_true)]
      simp only [List.map_cons, compD, h1, h2, hp, h4, ih, Option.bind_some, Bool.false_eq_true, ↓reduceIte]
theorem kit_ii : kitB "int" "int" = some true := by decide +kernel
theorem kit_ib : kitB "int" "bool" = some false := by decide +kernel
theorem kit_ll : kitB "list" "list" = some true := by decide +kernel
theorem kit_bb : kitB "bool" "bool" = some true := by decide +kernel
theorem kit_bi : kitB "bool" "int" = some true := by decide +kernel
theorem kit_ss : kitB "str" "str" = some true := by decide +kernel
theorem kit_tt : kitB "tuple" "tuple" = some true := by decide +kernel
theorem kit_tl : kitB "tuple" "list" = some false := by decide +kernel
theorem kit_lt : kitB "list" "tuple" = some false := by decide +kernel
theorem kit_ls : kitB "list" "str" = some false := by decide +kernel
theorem kit_li : kitB "list" "int" = some false := by decide +kernel
theorem kit_lb : kitB "list" "bool" = some false := by decide +kernel
theorem kit_is : kitB "int" "str" = some false := by decide +kernel
theorem kit_si : kitB "str" "int" = some false := by decide +kernel
theorem kit_sb : kitB "str" "bool" = some false := by decide +kernel
theorem kit_ti : kitB "tuple" "int" = some false := by decide +kernel
theorem kit_tb : kitB "tuple" "bool" = some false := by decide +kernel
theorem kit_ts : kitB "tuple" "str" = some false := by decide +kernel
end DL

set_option Elab.async false
set_option linter.all false
set_option maxRecDepth 100000
/-! Texts. -/
namespace DL
open PySem PySem.Spec PyProof.Rows L2
theorem rpDs_strs {K : PySem.W.Frag} {G : Hp} : ∀ ys : List Str, RpDs K G (ys.map D.str) (ys.map V.str)
  | [] => rfl
  | y :: ys => ⟨.str y, _, rfl, rfl, rpDs_strs ys⟩
def strsD : List D → Option (List Str)
  | [] => some []
  | .str s :: r => (strsD r).map (s :: ·)
  | _ => none
theorem strsD_eq : ∀ {ds : List D} {ss : List Str}, strsD ds = some ss → ds = ss.map D.str
  | [], ss, h => by cases h; rfl
  | .str s :: r, ss, h => by
    obtain ⟨ms, h1, h2⟩ := omap (show (strsD r).map (s :: ·) = some ss from h)
    subst h2
    rw [strsD_eq h1]; rfl
  | .non :: _, _, h => by cases h
  | .bl _ :: _, _, h => by cases h
  | .int _ :: _, _, h => by cases h
  | .lst _ :: _, _, h => by cases h
  | .tup _ :: _, _, h => by cases h
  | .dic _ :: _, _, h => by cases h
theorem strsD_map : ∀ ss : List Str, strsD (ss.map D.str) = some ss
  | [] => rfl
  | s :: ss => by show (strsD (ss.map D.str)).map (s :: ·) = _; rw [strsD_map ss]; rfl
theorem rpDs_strs_eq {K : PySem.W.Frag} {G : Hp} : ∀ {ss : List Str} {vs : List V}, RpDs K G (ss.map D.str) vs → vs = ss.map V.str
  | [], vs, h => h
  | n :: ns, vs, ⟨v, r, h1, h2, h3⟩ => by rw [h1, show v = _ from h2, rpDs_strs_eq h3]; rfl
/-- s.m(t) of two texts, a scalar -/
def eM1 (g : Str → Str → Option D) (fo fe : EF) : EF := fun env => (fo env).bind fun x => (fe x.2).bind fun y => match x.1, y.1 with
  | .p (.str a), .p (.str b) => (g a b).map fun d => (.p d, y.2)
  | _, _ => none
theorem eM1_some {g : Str → Str → Option D} {fo fe : EF} {t : T} {env env' : Env} (h : eM1 g fo fe env = some (t, env')) : ∃ a e1 b d, fo env = some (.p (.str a), e1) ∧ fe e1 = some (.p (.str b), env') ∧ g a b = some d ∧ t = .p d := by
  obtain ⟨⟨x, e1⟩, h1, h2⟩ := obind h
  obtain ⟨⟨y, e2⟩, h3, h4⟩ := obind h2
  dsimp only at h4
  split at h4
  · obtain ⟨d, h5, h6⟩ := omap h4
    cases h6
    exact ⟨_, e1, _, d, h1, h3, h5, rfl⟩
  · cases h4
section
variable {X : Cx} {o e a b : Expr} {to te ta tb : TE} {fo fe fa fb : EF} {apos pos : Pos}
theorem dt_m1 {id : String} {name : Str} {r : V → List V → Hp → VK → Prop} {g : Str → Str → Option D} (slot : Slot "str" name id) (ty : typeOf (.builtin id) = pure (.type "method_descriptor")) (rule : MtR X id r)
    (hr : ∀ a b d (H : Hp) (Q : VK), g a b = some d → (∀ u, (∀ (K : PySem.W.Frag) G, RpD K G d u) → Q u H) → r (.str a) [.str b] H Q) (ho : DT X o to fo) (he : DT X e te fe)
    (hs : starEach [e] X.env = [(false, eval e X.env)] := by rfl) (hbase : attributeBase o name X.env (eval o X.env) = eval o X.env := by rfl) (hline : (apos.endLine == pos.line) = true := by rfl) :
    DT X (.Call (.Attribute o name apos) [e] [] pos) (tM1 r to te) (eM1 g fo fe) := by
  refine ⟨pe_m1 slot ty rule ho.pe he.pe hs hbase hline, ?_⟩
  intro G0 H0 W H ts vs env σ t env' S h Q q
  obtain ⟨a, e1, b, d, h1, h2, h3, rfl⟩ := eM1_some h
  refine ho.ok _ _ _ _ _ _ _ _ _ _ S h1 _ fun v H1 s1 S1 => ?_
  have ev : v = .str a := S1.top
  refine ⟨⟨a, ev⟩, ?_⟩
  refine he.ok _ _ _ _ _ _ _ _ _ _ S1 h2 _ fun w H2 s2 S2 => ?_
  have ew : w = .str b := S2.top
  rw [ev, ew]
  exact hr a b d H2 Q h3 fun u hu => q u H2 (s1.trans s2) (S2.pop.pop.scal (hu X.K))
def gStarts (a b : Str) : Option D := some (.bl (Txt.startswith a b))
def gFind (a b : Str) : Option D := some (.int (Txt.find a b))
def gCount (a b : Str) : Option D := some (.int (Txt.count a b))
theorem dt_startswith (ho : DT X o to fo) (he : DT X e te fe) (hs : starEach [e] X.env = [(false, eval e X.env)] := by rfl) (hbase : attributeBase o "startswith" X.env (eval o X.env) = eval o X.env := by rfl) (hline : (apos.endLine == pos.line) = true := by rfl) :
    DT X (.Call (.Attribute o "startswith" apos) [e] [] pos) (tM1 (fun x xs H Q => ∃ a b, x = .str a ∧ xs = [.str b] ∧ Q (.bl (Txt.startswith a b)) H) to te) (eM1 gStarts fo fe) :=
  dt_m1 F.slot_str_startswith F.type_str_startswith mt_startswith (fun a b d H Q h q => ⟨a, b, rfl, rfl, by cases h; exact q _ fun _ _ => rfl⟩) ho he hs hbase hline
theorem dt_find (ho : DT X o to fo) (he : DT X e te fe) (hs : starEach [e] X.env = [(false, eval e X.env)] := by rfl) (hbase : attributeBase o "find" X.env (eval o X.env) = eval o X.env := by rfl) (hline : (apos.endLine == pos.line) = true := by rfl) :
    DT X (.Call (.Attribute o "find" apos) [e] [] pos) (tM1 (fun x xs H Q => ∃ a b, x = .str a ∧ xs = [.str b] ∧ Q (.int (Txt.find a b)) H) to te) (eM1 gFind fo fe) :=
  dt_m1 F.slot_str_find F.type_str_find mt_find (fun a b d H Q h q => ⟨a, b, rfl, rfl, by cases h; exact q _ fun _ _ => rfl⟩) ho he hs hbase hline
/-- s.split(t) -/
def eSplit (fo fe : EF) : EF := fun env => (fo env).bind fun x => (fe x.2).bind fun y => match x.1, y.1 with
  | .p (.str a), .p (.str b) => if (b.length == 0) = false ∧ a.length + 2 ≤ 16777216 then some (.lst (((Txt.split a b).map D.str).map T.p), y.2) else none
  | _, _ => none
theorem dt_split (ho : DT X o to fo) (he : DT X e te fe) (hs : starEach [e] X.env = [(false, eval e X.env)] := by rfl) (hbase : attributeBase o "split" X.env (eval o X.env) = eval o X.env := by rfl) (hline : (apos.endLine == pos.line) = true := by rfl) :
    DT X (.Call (.Attribute o "split" apos) [e] [] pos) (tM1 (fun x xs H Q => ∃ a b, x = .str a ∧ xs = [.str b] ∧ (b.length == 0) = false ∧ a.length + 2 ≤ sizeLine ∧ rNewStrs (Txt.split a b) H Q) to te) (eSplit fo fe) := by
  refine ⟨pe_split ho.pe he.pe hs hbase hline, ?_⟩
  intro G0 H0 W H ts vs env σ t env' S h Q q
  obtain ⟨⟨x, e1⟩, h1, h2⟩ := obind h
  obtain ⟨⟨y, e2⟩, h3, h4⟩ := obind h2
  dsimp only at h4
  split at h4
  · rename_i a b
    by_cases hc : (b.length == 0) = false ∧ a.length + 2 ≤ 16777216
    · rw [if_pos hc] at h4
      cases h4
      refine ho.ok _ _ _ _ _ _ _ _ _ _ S h1 _ fun v H1 s1 S1 => ?_
      have ev : v = .str a := S1.top
      refine ⟨⟨a, ev⟩, ?_⟩
      refine he.ok _ _ _ _ _ _ _ _ _ _ S1 h3 _ fun w H2 s2 S2 => ?_
      have ew : w = .str b := S2.top
      refine ⟨a, b, ev, by rw [ew], hc.1, by rw [sizeLine_eq]; exact hc.2, fun p hp => ?_⟩
      obtain ⟨G, ot, oe, s⟩ := S2.pop.pop
      exact q _ _ ((s1.trans s2).trans (same_upd hp)) (OkS.newL (by simp) (OkS.pushD s (rpDs_strs (Txt.split a b))) hp)
    · rw [if_neg hc] at h4; cases h4
  · cases h4
/-- s.join(list) -/
def eJoin (fo fe : EF) : EF := fun env => (fo env).bind fun x => (fe x.2).bind fun y => match x.1 with
  | .p (.str a) => (itemsT y.1).bind fun ds => (strsD ds).bind fun ys => if (ys.map (·.length)).sum + ys.length * a.length ≤ 16777216 then some (.p (.str (Txt.join a ys)), y.2) else none
  | _ => none
theorem dt_join (ho : DT X o to fo) (he : DV X e te fe) (hs : starEach [e] X.env = [(false, eval e X.env)] := by rfl) (hbase : attributeBase o "join" X.env (eval o X.env) = eval o X.env := by rfl) (hline : (apos.endLine == pos.line) = true := by rfl) :
    DT X (.Call (.Attribute o "join" apos) [e] [] pos) (tM1 (fun x xs H Q => ∃ a p, ∃ ys : List Str, x = .str a ∧ xs = [.ref p] ∧ (SqL X.K H p (ys.map V.str) ∨ SqT X.K H p (ys.map V.str)) ∧
      (ys.map (·.length)).sum + ys.length * a.length ≤ 16777216 ∧ Q (.str (Txt.join a ys)) H) to te) (eJoin fo fe) := by
  refine ⟨pe_join ho.pe he.pe hs hbase hline, ?_⟩
  intro G0 H0 W H ts vs env σ t env' S h Q q
  obtain ⟨⟨x, e1⟩, h1, h2⟩ := obind h
  obtain ⟨⟨y, e2⟩, h3, h4⟩ := obind h2
  dsimp only at h4
  split at h4
  · rename_i a
    obtain ⟨ds, h5, h6⟩ := obind h4
    obtain ⟨ys, h7, h8⟩ := obind h6
    by_cases hc : (ys.map (·.length)).sum + ys.length * a.length ≤ 16777216
    · rw [if_pos hc] at h8
      cases h8
      refine ho.ok _ _ _ _ _ _ _ _ _ _ S h1 _ fun v H1 s1 S1 => ?_
      have ev : v = .str a := S1.top
      refine ⟨⟨a, ev⟩, ?_⟩
      refine he.ok _ _ _ _ _ _ _ _ _ _ S1 h3 _ fun w H2 s2 S2 => ?_
      obtain ⟨p, xs, rfl, k1, k2, k3, S3⟩ := S2.items h5
      have ed := strsD_eq h7
      subst ed
      have ex : xs = ys.map V.str := by
        obtain ⟨G, ot, oe, s⟩ := S3
        obtain ⟨o1, o2, r1, _, _⟩ := s.tmp.split (by simpa using k3)
        exact rpDs_strs_eq (rpDs_of r1).1
      subst ex
      refine ⟨a, p, ys, ev, rfl, ?_, hc, q _ H2 (s1.trans s2) (S2.unview.pop.scal fun _ => rfl)⟩
      cases hk : isLT y with
      | true => exact .inl (k1 hk)
      | false => exact .inr (k2 hk)
    · rw [if_neg hc] at h8; cases h8
  · cases h4
end
/-! ### a text some times -/
def repS (z : Str) (n : Int) : Str := ⟨((List.replicate n.toNat z.cps.toList).flatten).toArray⟩
theorem foldl_arr (c : Array Nat) : ∀ (k : Nat) (acc : Array Nat), (List.replicate k c).foldl (· ++ ·) acc = acc ++ ((List.replicate k c.toList).flatten).toArray
  | 0, acc => by simp
  | k + 1, acc => by
    rw [List.replicate_succ, List.foldl_cons, foldl_arr c k, List.replicate_succ, List.flatten_cons]
    apply Array.toList_inj.mp
    simp
theorem op_mulS {X : Cx} : OpR X (binaryOp .Mult) (fun x y H Q => ∃ z n, x = .str z ∧ y = .int n ∧ -1000000000 < n ∧ n < 1000000000 ∧ z.length * n.toNat ≤ 16777216 ∧ Q (.str (repS z n)) H) := by
  intro pins s σ H x y v u Q I rx ry h
  obtain ⟨z, n, rfl, rfl, h1, h2, h3, q⟩ := h
  obtain ⟨t, rfl⟩ := rx
  obtain ⟨t', rfl⟩ := ry
  have fin : ∀ (r : Str) (tk : Tok), r = repS z n → EP X pins σ Q (.str r tk) { s with toks := s.toks + 1 } := fun r tk e => ⟨.str r, H, I.tok _, ⟨_, rfl⟩, by rw [e]; exact q⟩
  refine PySem.P.mul_str (by rw [decide_eq_false (by omega), decide_eq_false (by omega)]; rfl) (fun hn hz => ?_) (fun hn hz => ?_) ?_
  · intro z0
    have hn0 : 0 < n := by omega
    have hd : (2 ^ 63 - 1 : Int) / n < z.length := z0
    have hd2 : (2 ^ 63 - 1 : Int) < (z.length : Int) * n := by
      have := Int.lt_mul_of_ediv_lt hn0 hd
      exact this
    have h4 : ((z.length * n.toNat : Nat) : Int) = (z.length : Int) * n := by
      rw [Int.natCast_mul, Int.toNat_of_nonneg (by omega)]
    omega
  · exact decide_eq_false (by rw [sizeLine_eq]; omega)
  · by_cases hn : n < 1
    · rw [if_pos hn]
      refine ⟨by decide, ?_⟩
      have e : repS z n = Str.empty := by
        unfold repS
        rw [show n.toNat = 0 by omega]; rfl
      exact fin _ _ e.symm
    · rw [if_neg hn]
      by_cases hz : (n == 1 || z.length == 0) = true
      · rw [if_pos hz]
        refine ⟨.str z, H, I, ⟨t, rfl⟩, ?_⟩
        have e : repS z n = z := by
          apply TL.ext_tl
          show (List.replicate n.toNat z.cps.toList).flatten = z.cps.toList
          rw [Bool.or_eq_true] at hz
          rcases hz with hz | hz
          · have : n = 1 := by simpa using hz
            subst this
            simp
          · have : z.cps.toList = [] := by
              have := eq_of_beq hz
              rw [TL.len_tl] at this
              exact List.eq_nil_of_length_eq_zero this
            rw [this]; simp
        rw [e] at q; exact q
      · rw [if_neg hz]
        have e : (⟨(List.replicate n.toNat z.cps).foldl (· ++ ·) #[]⟩ : Str) = repS z n := by
          unfold repS
          rw [foldl_arr]
          simp
        rw [e]
        refine ⟨?_, fin _ _ rfl⟩
        rw [sizeLine_eq, TL.len_tl]
        show (List.replicate n.toNat z.cps.toList).flatten.length ≤ _
        rw [List.length_flatten, List.map_replicate, List.sum_replicate_nat]
        have : z.length = z.cps.toList.length := TL.len_tl z
        rw [this, Nat.mul_comm] at h3
        exact h3
def rMulA : R2 := fun x y H Q => (rI IntMulOk fun i j => .int (i * j)) x y H Q ∨ ∃ z n, x = .str z ∧ y = .int n ∧ -1000000000 < n ∧ n < 1000000000 ∧ z.length * n.toNat ≤ 16777216 ∧ Q (.str (repS z n)) H
theorem op_mulA {X : Cx} : OpR X (binaryOp .Mult) rMulA := OpR.or op_mulB op_mulS
def gMulA : D → D → Option D
  | .int i, .int j => gMul (.int i) (.int j)
  | .str z, .int n => if -1000000000 < n ∧ n < 1000000000 ∧ z.length * n.toNat ≤ 16777216 then some (.str (repS z n)) else none
  | _, _ => none
theorem sc_mulA : Sc2 rMulA gMulA := by
  intro a b d h K H v w Q hv hw q
  unfold gMulA at h
  split at h
  · exact .inl (sc_int (fun _ _ h => mulOk_ok h) _ _ d h K H v w Q hv hw q)
  · rename_i z n
    by_cases hc : -1000000000 < n ∧ n < 1000000000 ∧ z.length * n.toNat ≤ 16777216
    · rw [if_pos hc] at h; cases h
      exact .inr ⟨z, n, hv, hw, hc.1, hc.2.1, hc.2.2, q _ fun _ => rfl⟩
    · rw [if_neg hc] at h; cases h
  · cases h
theorem dt_mulA {X : Cx} {a b : Expr} {ta tb : TE} {fa fb : EF} {pos : Pos} (ha : DT X a ta fa) (hb : DT X b tb fb) : DT X (.BinOp a .Mult b pos) (tOp rMulA ta tb) (eOp gMulA fa fb) := dt_op op_mulA sc_mulA ha hb
theorem gMulA_i {i j : Int} : gMulA (.int i) (.int j) = gMul (.int i) (.int j) := rfl
/-- list + list -/
def rCatA : R2 := fun x y H Q => ∃ l b xs zs, x = .ref l ∧ y = .ref b ∧ Rd H l (.lst xs) ∧ Rd H b (.lst zs) ∧ xs.length + zs.length ≤ sizeLine ∧ ∀ p, H p = none → Q (.ref p) (upd H p (.lst (xs ++ zs)))
theorem op_catA {X : Cx} : OpR X (binaryOp .Add) rCatA := by
  intro pins s σ H x y v u Q I rx ry h
  obtain ⟨l, b, xs, zs, rfl, rfl, hH, hB, hz, q⟩ := h
  cases rx
  cases ry
  obtain ⟨z, its, n, r, e⟩ := (show ObjOk X.prog X.w H s.heap l (.lst xs) from hH.ok I.hok)
  obtain ⟨z2, its2, n2, r2, e2⟩ := (show ObjOk X.prog X.w H s.heap b (.lst zs) from hB.ok I.hok)
  have hl := r.length
  have hl2 := r2.length
  refine PySem.P.add_list e e2 ?_ (by rw [List.size_toArray, List.size_toArray]; omega)
  have ea : its.toArray ++ its2.toArray = (its ++ its2).toArray := by simp
  rw [ea]
  exact ⟨.ref _, _, I.lnew (t' := s.toks) (r.append r2) (by rw [List.length_append]; omega), rfl, q _ I.fresh⟩
theorem St0.rdL {K : PySem.W.Frag} {G0 H0 G H : Hp} {W : List (T × V)} {ts : List T} {vs : List V} {env : Env} {σ : St} {ot oe : List Addr} {t : T} {v : V} {ds : List D} (s : St0 K G0 H0 W G H ts vs env σ ot oe) (hq : (t, v) ∈ W) (h : itemsT t = some ds) (hl : isLT t = true) :
    ∃ a xs, v = .ref a ∧ Rd H a (.lst xs) ∧ RpDs K G ds xs := by
  obtain ⟨o, r⟩ := s.vw (t, v) hq
  cases t with
  | p d =>
    cases d with
    | lst ds' =>
      cases h
      obtain ⟨⟨a, xs, e1, e2, e3⟩, _⟩ := r
      exact ⟨a, xs, e1, Same.rd s.gh e2, e3⟩
    | tup ds' => cases hl
    | _ => cases h
  | lst us =>
    have e := allP_eq (show allP us = some ds from h)
    subst e
    obtain ⟨a, xs, o', e1, e2, e3, e4⟩ := r
    exact ⟨a, xs, e1, .inl e2, (rpDs_of e3).1⟩
  | tup us => cases hl
  | dic us => cases h
  | dit us => cases h
  | obj _ _ => cases h
  | box _ _ => cases h
  | al _ => cases h
/-- list + list -/
def eCat (fa fb : EF) : EF := fun env => (fa env).bind fun x => (fb x.2).bind fun y => (itemsT x.1).bind fun ds => (itemsT y.1).bind fun es =>
  if isLT x.1 = true ∧ isLT y.1 = true ∧ ds.length + es.length ≤ 16777216 then some (.lst ((ds ++ es).map T.p), y.2) else none
theorem dt_cat {X : Cx} {a b : Expr} {ta tb : TE} {fa fb : EF} {pos : Pos} (ha : DV X a ta fa) (hb : DV X b tb fb) : DT X (.BinOp a .Add b pos) (tOp rCatA ta tb) (eCat fa fb) := by
  refine ⟨pe_op op_catA ha.pe hb.pe, ?_⟩
  intro G0 H0 W H ts vs env σ t env' S g Q q
  obtain ⟨⟨x, e1⟩, h1, h2⟩ := obind g
  obtain ⟨⟨y, e2⟩, h3, h4⟩ := obind h2
  obtain ⟨ds, h5, h6⟩ := obind h4
  obtain ⟨es, h7, h8⟩ := obind h6
  by_cases hc : isLT x = true ∧ isLT y = true ∧ ds.length + es.length ≤ 16777216
  · rw [if_pos hc] at h8
    cases h8
    refine ha.ok _ _ _ _ _ _ _ _ _ _ S h1 _ fun v H1 s1 S1 => ?_
    refine hb.ok _ _ _ _ _ _ _ _ _ _ S1 h3 _ fun w H2 s2 S2 => ?_
    obtain ⟨G, ot, oe, s⟩ := S2
    obtain ⟨l, xs, e1, r1, d1⟩ := s.rdL (t := x) (v := v) (by simp) h5 hc.1
    obtain ⟨b, zs, e2, r2, d2⟩ := s.rdL (t := y) (v := w) (by simp) h7 hc.2.1
    refine ⟨l, b, xs, zs, e1, e2, r1, r2, by rw [sizeLine_eq, d1.len, d2.len]; exact hc.2.2, fun p hp => ?_⟩
    have dd := d1.append d2
    have s' : St0 X.K G0 H0 W G H2 ts vs _ σ ot oe := ⟨s.tmp, s.env, s.nd, s.fr, s.g0, s.gh, s.h0, s.nw, fun q hq => s.vw q (List.mem_cons_of_mem _ (List.mem_cons_of_mem _ hq))⟩
    exact q _ _ ((s1.trans s2).trans (same_upd hp)) (OkS.newL (by rw [List.length_map]; exact dd.len) (OkS.pushD s' dd) hp)
  · rw [if_neg hc] at h8; cases h8
/-- a fresh thing that nobody will change -/
def eFz (f : EF) : EF := fun env => (f env).map fun r => (.p r.1.toD, r.2)
theorem dt_fz {X : Cx} {e : Expr} {te : TE} {f : EF} (h : DT X e te f) : DT X e te (eFz f) := by
  refine ⟨h.pe, ?_⟩
  intro G0 H0 W H ts vs env σ t env' S g Q q
  obtain ⟨⟨x, e1⟩, h1, h2⟩ := omap g
  cases h2
  exact h.ok _ _ _ _ _ _ _ _ _ _ S h1 _ fun v H1 s1 S1 => q v H1 s1 S1.frz
/-- a def that is never asked -/
theorem fn_none {P : Program} {w : World} {K : PySem.W.Frag} {mg : Str → Option Value} {base : Heap} {k : Nat} {f : Addr} {fd : FuncData} {ps : List Str} {n : Nat} : FnOk P w K mg base CX0 k f fd ps (spD n (fun _ => none) K) :=
  ⟨fun _ _ _ _ ⟨_, _, _, _, h, _⟩ => (nomatch h), fun _ _ _ _ _ _ _ _ _ _ _ _ _ ⟨_, _, _, _, h, _⟩ => (nomatch h)⟩
/-- a name's own thing handed on, though what stands behind it still looks at it -/
def aMv (i : Nat) (r : AF) : AF := fun env => match env[i]? with
  | some (some _) => (r env).bind fun y => match y.2[i]? with
    | some (some t) => some (t :: y.1, y.2.set i none)
    | _ => none
  | _ => none
theorem da_mv {X : Cx} {es : List Expr} {tr : TA} {fr : AF} {pos : Pos} (i : Nat) {x : Str} (hr : DA X es tr fr) (hs : starEach (.Name x pos :: es) X.env = (false, eval (.Name x pos) X.env) :: starEach es X.env := by rfl) (hN : X.N[i]? = some x := by rfl) (hv : Vis X.env.scope x := by first | exact Or.inl rfl | exact Or.inr (Or.inl rfl) | exact Or.inr (Or.inr rfl)) (hd : (x == ("__debug__" : Str)) = false := by decide)
    (hcd : (x == ("__classdict__" : Str)) = false := by decide) : DA X (.Name x pos :: es) (tCons (tVar i) tr) (aMv i fr) := by
  refine ⟨pa_cons (pe_var hN hv hd hcd) hr.pa hs, ?_⟩
  intro G0 H0 W H ts vs env σ us env' S g Q q
  unfold aMv at g
  cases h : env[i]? with
  | none => rw [h] at g; cases g
  | some o =>
    rw [h] at g
    cases o with
    | none => cases g
    | some u =>
      obtain ⟨⟨ys, e1⟩, g1, g2⟩ := obind g
      obtain ⟨v, hv1, _⟩ := S.get h
      refine ⟨v, hv1, ?_⟩
      refine hr.ok _ _ _ _ _ _ _ _ _ _ S g1 _ fun ws H1 s1 hl S1 => ?_
      dsimp only at g2
      cases h2 : e1[i]? with
      | none => rw [h2] at g2; cases g2
      | some o2 =>
        rw [h2] at g2
        cases o2 with
        | none => cases g2
        | some t =>
          cases g2
          obtain ⟨v2, hv2, S2⟩ := S1.get h2
          rw [hv1] at hv2
          cases hv2
          exact q (v :: ws) H1 s1 (by simp [hl]) S2
/-- a constant of the module -/
theorem dt_kI {X : Cx} {x : Str} {n : Int} {pos : Pos} (hg : Gl X x) (hm : ∃ t, X.mg x = some (.int n t)) (hd : (x == ("__debug__" : Str)) = false := by decide) : DT X (.Name x pos) (tC (.int n)) (eC (.int n)) := by
  obtain ⟨t, hm⟩ := hm
  refine ⟨pe_glob hg hm ⟨t, rfl⟩ hd, ?_⟩
  intro G0 H0 W H ts vs env σ t env' S g Q q
  cases g
  exact q _ H (Same.refl _) (S.scal fun _ => rfl)
theorem dt_kS {X : Cx} {x : Str} {n : Str} {pos : Pos} (hg : Gl X x) (hm : ∃ t, X.mg x = some (.str n t)) (hd : (x == ("__debug__" : Str)) = false := by decide) : DT X (.Name x pos) (tC (.str n)) (eC (.str n)) := by
  obtain ⟨t, hm⟩ := hm
  refine ⟨pe_glob hg hm ⟨t, rfl⟩ hd, ?_⟩
  intro G0 H0 W H ts vs env σ t env' S g Q q
  cases g
  exact q _ H (Same.refl _) (S.scal fun _ => rfl)
/-! ### the end: the script is no object of the module -/
def Less (K K' : PySem.W.Frag) : Prop := ∀ (b : Addr) (o : Obj), K.lookup b = some o → ¬ (o.cls = .type "list" ∧ ∃ its n, o.data = .seq its n) → K'.lookup b = some o
section
variable {K K' : PySem.W.Frag}
theorem Less.refl (K : PySem.W.Frag) : Less K K := fun _ _ e _ => e
theorem Less.fn (L : Less K K') {f : Addr} {oc : Value} {od : Option Addr} {fd : FuncData} {sl : Array (Option Value)} (h : K.lookup f = some ⟨oc, od, .func fd, sl⟩) : K'.lookup f = some ⟨oc, od, .func fd, sl⟩ := L _ _ h fun ⟨_, _, _, e⟩ => nomatch e
theorem Less.code (L : Less K K') {cd : Value} {z : Str} (h : PySem.W.codeIn K cd z = true) : PySem.W.codeIn K' cd z = true := by
  unfold PySem.W.codeIn at h ⊢
  cases cd with
  | ref c =>
    dsimp only at h ⊢
    split at h
    · rename_i e
      rw [L _ _ e fun ⟨_, _, _, e⟩ => nomatch e]
      exact h
    · cases h
  | _ => cases h
theorem Less.keep (L : Less K K') {f : Addr} {oc : Value} {od : Option Addr} {fd : FuncData} {sl : Array (Option Value)} (h : K.lookup f = some ⟨oc, od, .func fd, sl⟩) : PySem.W.keepIn K' (.ref f) = true := by
  unfold PySem.W.keepIn
  dsimp only
  rw [L.fn h]
theorem Less.fun {x qual : Str} {st : Stmt} {f : Addr} {fd : FuncData} (L : Less K K') (F : Fun K x qual st f fd) : Fun K' x qual st f fd := by
  obtain ⟨oc, od, kV, doc, pm, an, cdv, ct, osl, e, lk, hcd⟩ := F.ex
  exact ⟨⟨oc, od, kV, doc, pm, an, cdv, ct, osl, e, L.fn lk, L.code hcd⟩, L.keep lk⟩
theorem look_filter (a : Addr) : ∀ (K : PySem.W.Frag) (b : Addr), List.lookup b (K.filter fun p => !(p.1 == a)) = if b = a then none else List.lookup b K
  | [], b => by simp
  | (c, o) :: K, b => by
    by_cases hc : c = a
    · subst hc
      rw [List.filter_cons_of_neg (by simp), look_filter c K b]
      by_cases hb : b = c
      · rw [if_pos hb, if_pos hb]
      · rw [if_neg hb, if_neg hb, List.lookup_cons, show (b == c) = false by simpa using hb]
    · rw [List.filter_cons_of_pos (by simpa using hc), List.lookup_cons, look_filter a K b, List.lookup_cons]
      by_cases hb : b = c
      · subst hb; simp [hc]
      · rw [show (b == c) = false by simpa using hb]
end
theorem walk_D {l : PySem.W.OpenLaw} {n k : Nat} {q : Program} {loose : List Str} {XP : (Str → Option Value) → Heap → Prop} {YP : World → Heap → Prop} {d : DefRec} {K : Params → PySem.W.Frag} {φ : List D → Option T} {x : Str}
    (hn : l.most = some n) (hn2 : n ≤ sizeLine) (hdf : d.params.defaults = []) (hr : Room k callerA) (hY : ∀ (w : World) (h : Heap), YP w h → (K w.params).In h)
    (F : ∀ (w : World) (mg : Str → Option Value) (fa : Addr) (h : Heap), (K w.params).In h → h.Ns mainGlobals mg → mg d.name = some (.ref fa) →
      ∃ fd : FuncData, (∀ (s : Shared) (u : Value), BindsTo s fd ⟨[u], []⟩ [(x, u)]) ∧ ∀ (K' : PySem.W.Frag) (base : Heap), Less (K w.params) K' → FnOk l.prog w K' mg base CX0 k fa fd [x] (spD 1 φ K'))
    (M : ∀ ns : List Int, ns.length ≤ n → (∀ z ∈ ns, Builtin.Int.intBits z ≤ 1048576) → φ [.lst (ns.map D.int)] = some (.p (.bl true))) :
    PySem.W.WalkO q loose XP YP l.row.toRowW d [] (fun f vs => PySem.call f vs) := by
  refine Att.attach_callB hn hdf fun w s₀ s₁ mg mb fa o pm cd doc a vs ns G Y ho hd hcd hmg hobj hints hlen hbits hg => ?_
  have KX := hY w _ Y
  obtain ⟨fd, hb, hF⟩ := F w mg fa _ KX G.T.g hmg
  have hM := M ns hlen hbits
  have go : ∀ K' : PySem.W.Frag, K'.In s₁.heap → List.lookup a K' = none → Less (K w.params) K' → codeAny (model l.prog w) callerA (.call (.ref fa) ⟨[.ref a], []⟩) (fun r s' => r = .ok (.ret (.bool true)) ∧ OldK s₁.heap s'.heap ∧ s'.os = s₁.os ∧ AllBare s'.gens) s₁ := fun K' KI hk L =>
    law_call (K := K') KI G.T.g G.T.b G.T.builtins G.T.nolimit hg hobj hints (Nat.le_trans hlen hn2) hr (fun base _ _ => hF K' base L) hb (fun H hO hS => by
      rcases hS with hS | ⟨o, its, n, e, _⟩
      · exact end_law hM hS
      · have e' : List.lookup a K' = some o := e
        rw [hk] at e'; cases e') fun _ _ _ h => h
  cases hk : List.lookup a (K w.params) with
  | none => exact go _ KX hk (Less.refl _)
  | some o1 =>
    have e1 := KX a o1 hk
    rw [hobj] at e1
    cases e1
    refine go ((K w.params).filter fun p => !(p.1 == a)) (fun b o e => ?_) ?_ fun b o e hn => ?_
    · have e' : List.lookup b ((K w.params).filter fun p => !(p.1 == a)) = some o := e
      rw [look_filter] at e'
      by_cases hb : b = a
      · rw [if_pos hb] at e'; cases e'
      · rw [if_neg hb] at e'; exact KX b o e'
    · rw [look_filter, if_pos rfl]
    · show List.lookup b ((K w.params).filter fun p => !(p.1 == a)) = some o
      rw [look_filter]
      by_cases hb : b = a
      · subst hb
        have e2 : List.lookup b (K w.params) = some o := e
        rw [hk] at e2; cases e2
        exact absurd ⟨rfl, _, _, rfl⟩ hn
      · rw [if_neg hb]; exact e
end DL

set_option Elab.async false
set_option linter.all false
set_option maxRecDepth 100000
/-! Dicts with int and text keys: an owned dict with frozen values (T.dic kvs, each value T.p), or a pure one. -/
namespace DL
open PySem PySem.Spec PyProof.Rows L2
section
variable {K : PySem.W.Frag} {G0 H0 H : Hp} {W : List (T × V)} {ts : List T} {vs : List V} {env : Env} {σ : St} {t : T} {v : V}
theorem OkS.newDic {p : Addr} (S : OkS K G0 H0 W H ts vs env σ) (hp : H p = none) : OkS K G0 H0 W (upd H p (.dK [])) (.dic [] :: ts) (.ref p :: vs) env σ := by
  obtain ⟨G, ot, oe, s⟩ := S
  have gp : G p = none := Same.none s.gh hp
  have ne : ∀ a u, H a = some u → a ≠ p := fun a u e z => by rw [z, hp] at e; cases e
  have k2 : ∀ a ∈ ot, upd H p (.dK []) a = H a := fun a ha => by
    obtain ⟨u, e, _⟩ := s.tmp.there _ a ha
    exact upd_ne (ne a u e)
  have k3 : ∀ a ∈ oe, upd H p (.dK []) a = H a := fun a ha => by
    obtain ⟨u, e, _⟩ := s.env.there _ a ha
    exact upd_ne (ne a u e)
  have all : ∀ a ∈ ot ++ oe, ∃ u, H a = some u := fun a ha => by
    rcases List.mem_append.mp ha with ha | ha
    · obtain ⟨u, e, _⟩ := s.tmp.there _ a ha; exact ⟨u, e⟩
    · obtain ⟨u, e, _⟩ := s.env.there _ a ha; exact ⟨u, e⟩
  refine ⟨G, p :: ot, oe, ⟨.ref p, vs, [p], ot, rfl, ⟨p, [], [], rfl, upd_same, ⟨rfl, rfl⟩, rfl⟩, s.tmp.mono (Same.refl _) _ k2, rfl⟩, s.env.mono (Same.refl _) _ k3, ?_, fun a ha => ?_, s.g0, fun b u e => ?_, fun b u e => ?_, s.nw, fun q hq => ?_⟩
  · rw [List.cons_append]
    refine List.nodup_cons.mpr ⟨fun z => ?_, s.nd⟩
    obtain ⟨u, e⟩ := all p z
    rw [hp] at e; cases e
  · rw [List.cons_append] at ha
    rcases List.mem_cons.mp ha with e | ha
    · subst e; exact ⟨gp, Same.none s.h0 hp⟩
    · exact s.fr a ha
  · rw [upd_ne (ne b u (s.gh b u e))]; exact s.gh b u e
  · rw [upd_ne (ne b u (s.h0 b u e))]; exact s.h0 b u e
  · obtain ⟨o, h⟩ := s.vw q hq
    refine ⟨o, h.mono (Same.refl _) _ fun a ha => ?_⟩
    obtain ⟨u, e, _⟩ := h.there _ a ha
    exact upd_ne (ne a u e)
/-- pairs of keys and frozen values -/
def RpKd (K : PySem.W.Frag) (G : Hp) (kvs : List (Key × D)) (xs : List (Key × V)) : Prop := RpKs K G kvs xs
def pairsT (kvs : List (Key × D)) : List (Key × T) := kvs.map fun kv => (kv.1, T.p kv.2)
theorem rpTk_of {G : Hp} : ∀ {kvs : List (Key × D)} {xs : List (Key × V)} {o : List Addr}, RpTk K G H (pairsT kvs) xs o → RpKs K G kvs xs ∧ o = []
  | [], _, _, h => h
  | (k, d) :: r, _, _, ⟨v, r', o1, o2, h1, h2, h3, h4⟩ => by
    obtain ⟨g1, g2⟩ := rpTk_of h3
    exact ⟨⟨v, r', h1, h2.1, g1⟩, by rw [h4, h2.2, g2]; rfl⟩
theorem rpTk_mk {G : Hp} : ∀ {kvs : List (Key × D)} {xs : List (Key × V)}, RpKs K G kvs xs → RpTk K G H (pairsT kvs) xs []
  | [], _, h => ⟨h, rfl⟩
  | (k, d) :: r, _, ⟨v, r', h1, h2, h3⟩ => ⟨v, r', [], [], h1, ⟨h2, rfl⟩, rpTk_mk h3, rfl⟩
def putD (kvs : List (Key × D)) (k : Key) (d : D) : List (Key × D) := if (kvs.any fun kv => decide (kv.1 = k)) = true then kvs.map (fun kv => if kv.1 = k then (kv.1, d) else kv) else kvs ++ [(k, d)]
def valD (kvs : List (Key × D)) (k : Key) : Option D := (kvs.find? fun kv => decide (kv.1 = k)).map (·.2)
theorem RpKs.any {G : Hp} (k : Key) : ∀ {kvs : List (Key × D)} {xs : List (Key × V)}, RpKs K G kvs xs → (xs.any fun kv => decide (kv.1 = k)) = kvs.any fun kv => decide (kv.1 = k)
  | [], xs, h => by rw [show xs = [] from h]; rfl
  | (j, d) :: r, _, ⟨v, r', h1, h2, h3⟩ => by rw [h1, List.any_cons, List.any_cons, RpKs.any k h3]
theorem RpKs.upd {G : Hp} (k : Key) {d : D} {v : V} (hv : RpD K G d v) : ∀ {kvs : List (Key × D)} {xs : List (Key × V)}, RpKs K G kvs xs → RpKs K G (kvs.map (fun kv => if kv.1 = k then (kv.1, d) else kv)) (xs.map (fun kv => if kv.1 = k then (kv.1, v) else kv))
  | [], xs, h => by rw [show xs = [] from h]; exact rfl
  | (j, e) :: r, _, ⟨w, r', h1, h2, h3⟩ => by
    subst h1
    rw [List.map_cons, List.map_cons]
    have ih := RpKs.upd k hv h3
    by_cases c : j = k
    · rw [if_pos c, if_pos c]; exact ⟨v, _, rfl, hv, ih⟩
    · rw [if_neg c, if_neg c]; exact ⟨w, _, rfl, h2, ih⟩
theorem RpKs.app {G : Hp} {k : Key} {d : D} {v : V} (hv : RpD K G d v) : ∀ {kvs : List (Key × D)} {xs : List (Key × V)}, RpKs K G kvs xs → RpKs K G (kvs ++ [(k, d)]) (xs ++ [(k, v)])
  | [], xs, h => by rw [show xs = [] from h]; exact ⟨v, [], rfl, hv, rfl⟩
  | (j, e) :: r, _, ⟨w, r', h1, h2, h3⟩ => by subst h1; exact ⟨w, _, rfl, h2, RpKs.app hv h3⟩
theorem RpKs.put {G : Hp} {k : Key} {d : D} {v : V} (hv : RpD K G d v) {kvs : List (Key × D)} {xs : List (Key × V)} (h : RpKs K G kvs xs) : RpKs K G (putD kvs k d) (putK xs k v) := by
  unfold putD putK
  rw [h.any k]
  split
  · exact h.upd k hv
  · exact h.app hv
theorem RpKs.val {G : Hp} (k : Key) : ∀ {kvs : List (Key × D)} {xs : List (Key × V)}, RpKs K G kvs xs → (valD kvs k = none → valV xs k = none) ∧ ∀ d, valD kvs k = some d → ∃ v, valV xs k = some v ∧ RpD K G d v
  | [], xs, h => by rw [show xs = [] from h]; exact ⟨fun _ => rfl, fun d h => (nomatch h)⟩
  | (j, e) :: r, _, ⟨w, r', h1, h2, h3⟩ => by
    subst h1
    by_cases c : j = k
    · have e1 : valD ((j, e) :: r) k = some e := by simp [valD, List.find?_cons, c]
      rw [e1, valV_pos (by exact c)]
      exact ⟨fun h => (nomatch h), fun d h => by cases h; exact ⟨w, rfl, h2⟩⟩
    · have e1 : valD ((j, e) :: r) k = valD r k := by simp [valD, List.find?_cons, c]
      rw [e1, valV_neg (by exact c)]
      exact RpKs.val k h3
theorem RpKs.length {G : Hp} : ∀ {kvs : List (Key × D)} {xs : List (Key × V)}, RpKs K G kvs xs → xs.length = kvs.length
  | [], xs, h => by rw [show xs = [] from h]; rfl
  | (j, e) :: r, _, ⟨w, r', h1, h2, h3⟩ => by subst h1; simp [RpKs.length h3]
/-- an owned dict written: what stood in it, and what stands then -/
theorem OkS.wrDic {kvs : List (Key × D)} {es : List T} {ws : List V} (S : OkS K G0 H0 W H (.dic (pairsT kvs) :: (es ++ ts)) (v :: (ws ++ vs)) env σ) (hw : ws.length = es.length) : ∃ a xs, v = .ref a ∧ H a = some (.dK xs) ∧ xs.length = kvs.length ∧
    ∀ (kvs' : List (Key × D)) (xs' : List (Key × V)), (∀ (G : Hp) (o2 : List Addr), RpKs K G kvs xs → RpTs K G H es ws o2 → RpKs K G kvs' xs') → OkS K G0 H0 [] (upd H a (.dK xs')) (.dic (pairsT kvs') :: ts) (.ref a :: vs) env σ := by
  obtain ⟨G, ot, oe, s⟩ := S
  obtain ⟨v0, r0, oa, ob, h1, ⟨a, xs, o1, e1, e2, e3, e4⟩, h3, h4⟩ := s.tmp
  cases h1
  obtain ⟨o2, o3, k1, k2, k3⟩ := h3.split hw
  obtain ⟨z1, z2⟩ := rpTk_of e3
  subst z2
  refine ⟨a, xs, e1, e2, z1.length, fun kvs' xs' hf => ?_⟩
  have f1 := hf G o2 z1 k1
  have pm : (ot ++ oe).Perm (a :: (o3 ++ oe) ++ o2) := by
    rw [h4, e4, k3]
    have q1 : (a :: ([] : List Addr) ++ (o2 ++ o3) ++ oe) = a :: (o2 ++ (o3 ++ oe)) := by simp
    rw [q1, List.cons_append]
    exact List.Perm.cons a List.perm_append_comm
  have nd := (List.nodup_append.mp (pm.nodup_iff.mp s.nd)).1
  have na : ∀ b ∈ o3 ++ oe, b ≠ a := fun b hb e => by
    subst e
    exact (List.nodup_cons.mp nd).1 hb
  have kp : ∀ b ∈ o3 ++ oe, upd H a (.dK xs') b = H b := fun b hb => upd_ne (na b hb)
  have fr : ∀ b ∈ a :: (o3 ++ oe), G b = none ∧ H0 b = none := fun b hb => s.fr b (pm.mem_iff.mpr (List.mem_append_left _ hb))
  refine ⟨G, a :: o3, oe, ⟨.ref a, vs, [a], o3, rfl, ⟨a, xs', [], rfl, upd_same, rpTk_mk f1, rfl⟩, k2.mono (Same.refl _) _ (fun b hb => kp b (by simp [hb])), rfl⟩, s.env.mono (Same.refl _) _ (fun b hb => kp b (by simp [hb])), by simpa using nd, fun b hb => fr b (by simpa using hb), s.g0, fun b u e => ?_, fun b u e => ?_, s.nw, fun q hq => by cases hq⟩
  · have : b ≠ a := fun z => by subst z; rw [(fr b (by simp)).1] at e; cases e
    rw [upd_ne this]; exact s.gh b u e
  · have : b ≠ a := fun z => by subst z; rw [(fr b (by simp)).2] at e; cases e
    rw [upd_ne this]; exact s.h0 b u e
end
/-- {} -/
def eDn : EF := fun env => some (.dic [], env)
theorem dt_dn {X : Cx} {pos : Pos} : DT X (.Dict [] [] pos) tDNewK eDn := by
  refine ⟨pe_dnewK, ?_⟩
  intro G0 H0 W H ts vs env σ t env' S g Q q
  cases g
  exact fun p hp => q _ _ (same_upd hp) (S.newDic hp)
/-- a dict's own pairs, where they are frozen -/
def frzK : List (Key × T) → Option (List (Key × D))
  | [] => some []
  | (k, .p d) :: r => (frzK r).map ((k, d) :: ·)
  | _ :: _ => none
theorem frzK_eq : ∀ {kvs : List (Key × T)} {ds : List (Key × D)}, frzK kvs = some ds → kvs = pairsT ds
  | [], ds, h => by cases h; rfl
  | (k, .p d) :: r, ds, h => by
    obtain ⟨es, h1, h2⟩ := omap (show (frzK r).map ((k, d) :: ·) = some ds from h)
    subst h2
    rw [frzK_eq h1]; rfl
  | (_, .lst _) :: _, _, h => by cases h
  | (_, .tup _) :: _, _, h => by cases h
  | (_, .dic _) :: _, _, h => by cases h
theorem frzK_pairs : ∀ ds : List (Key × D), frzK (pairsT ds) = some ds
  | [] => rfl
  | (k, d) :: r => by show (frzK (pairsT r)).map ((k, d) :: ·) = _; rw [frzK_pairs r]; rfl
def keyD : D → Option Key
  | .int i => some (.inl i)
  | .str s => some (.inr s)
  | _ => none
theorem keyD_rp {K : PySem.W.Frag} {G : Hp} {d : D} {k : Key} {v : V} (h : keyD d = some k) (r : RpD K G d v) : v = kV k := by
  cases d with
  | int i => cases h; exact r
  | str s => cases h; exact r
  | _ => cases h
/-- a name's own dict -/
def atD (env : Env) (i : Nat) : Option (List (Key × D)) := match env[i]? with
  | some (some (.dic kvs)) => frzK kvs
  | _ => none
theorem atD_eq {env : Env} {i : Nat} {ds : List (Key × D)} (h : atD env i = some ds) : env[i]? = some (some (.dic (pairsT ds))) := by
  unfold atD at h
  split at h
  · rename_i kvs e
    rw [e, frzK_eq h]
  · cases h
def keyT : T → Option Key
  | .p d => keyD d
  | _ => none
/-- d[k] = v, d a name, v frozen -/
def sPutD (i : Nat) (fk f : EF) : SF := fun env => (f env).bind fun r => (atD r.2 i).bind fun _ => (fk r.2).bind fun s => (keyT s.1).bind fun k => (atD s.2 i).bind fun kvs => match r.1 with
  | .p d => if kvs.length < 16000000 then some (.nx, s.2.set i (some (.dic (pairsT (putD kvs k d))))) else none
  | _ => none
section
variable {X : Cx} {e j : Expr} {te tj : TE} {f fj : EF} {pos npos ipos : Pos}
theorem ds_putD (i : Nat) {x : Str} (hu : X.A.units + 1 < cLine) (h : DT X e te f) (hj : DT X j tj fj) (hs : swapsWith e (some (.Subscript (.Name x npos) j ipos)) pos.line X.env = pure false := by rfl) (hN : X.N[i]? = some x := by rfl) (hv : Vis X.env.scope x := by first | exact Or.inl rfl | exact Or.inr (Or.inl rfl) | exact Or.inr (Or.inr rfl)) (hd : (x == ("__debug__" : Str)) = false := by decide)
    (hcd : (x == ("__classdict__" : Str)) = false := by decide) : DS X (.Assign [.Subscript (.Name x npos) j ipos] e pos) (sDPut (tVar i) tj te) (sPutD i fj f) [] := by
  refine ⟨ps_dput hu (pe_var hN hv hd hcd) hj.pe h.pe hs, ?_⟩
  intro G0 H0 H ts vs env σ fl env' S g D q
  obtain ⟨⟨t, e1⟩, g1, g2⟩ := obind g
  obtain ⟨us, g3, g4⟩ := obind g2
  have he1 := atD_eq g3
  obtain ⟨⟨y, e2⟩, g5, g6⟩ := obind g4
  obtain ⟨k, g7, g8⟩ := obind g6
  obtain ⟨kvs, g9, g10⟩ := obind g8
  have he2 := atD_eq g9
  dsimp only at g10
  cases t with
  | p d =>
    have g10 : (if kvs.length < 16000000 then some (Fl.nx, e2.set i (some (.dic (pairsT (putD kvs k d))))) else none) = some (fl, env') := g10
    by_cases hlen16 : kvs.length < 16000000
    · rw [if_pos hlen16] at g10
      cases g10
      cases y with
      | p kd =>
        have g7 : keyD kd = some k := g7
        refine h.ok _ _ _ _ _ _ _ _ _ _ S g1 _ fun w H1 s1 S1 => ?_
        obtain ⟨v, hv1, S2⟩ := S1.look he1
        refine ⟨v, hv1, ?_⟩
        refine hj.ok _ _ _ _ _ _ _ _ _ _ S2.unview g5 _ fun z H2 s2 S3 => ?_
        have ez : z = kV k := keyD_rp g7 S3.top
        obtain ⟨v2, hv2, S4⟩ := S3.pop.get he2
        rw [hv1] at hv2
        cases hv2
        obtain ⟨a, xs, k1, k2, k3, k4⟩ := OkS.wrDic (es := [.p d]) (ws := [w]) S4 rfl
        cases k1
        have hsz : xs.length < sizeLine := by rw [k3, sizeLine_eq]; omega
        have dp : DPut H2 a z w (upd H2 a (.dK (putK xs k w))) := by rw [ez]; exact DPut.k k2 hsz
        refine ⟨a, _, rfl, dp, ?_⟩
        have S5 := k4 (putD kvs k d) (putK xs k w) fun G o2 r1 r2 => by
          obtain ⟨v', r', p1, p2, q1, q2, q3, q4⟩ := r2
          cases q1
          exact r1.put q2.1
        have hlen : i < e2.length := (List.getElem?_eq_some_iff.mp he2).1
        have S6 := S5.put (i := i) (by simpa using hlen)
        rw [List.set_set, set_back hv1] at S6
        exact q _ _ S6 .rfl'
      | _ => cases g7
    · rw [if_neg hlen16] at g10; cases g10
  | _ => cases g10
end
/-! ### a dict looked at -/
def dicT : T → Option (List (Key × D))
  | .p (.dic kvs) => some kvs
  | .dic kvs => frzK kvs
  | _ => none
theorem St0.dic {K : PySem.W.Frag} {G0 H0 G H : Hp} {W : List (T × V)} {ts : List T} {vs : List V} {env : Env} {σ : St} {ot oe : List Addr} {t : T} {v : V} {ds : List (Key × D)} (s : St0 K G0 H0 W G H ts vs env σ ot oe) (hq : (t, v) ∈ W) (h : dicT t = some ds) :
    ∃ a xs, v = .ref a ∧ Rd H a (.dK xs) ∧ RpKs K G ds xs := by
  obtain ⟨o, r⟩ := s.vw (t, v) hq
  cases t with
  | p d =>
    cases d with
    | dic kvs =>
      cases h
      obtain ⟨⟨a, xs, e1, e2, e3⟩, _⟩ := r
      exact ⟨a, xs, e1, Same.rd s.gh e2, e3⟩
    | _ => cases h
  | dic kvs =>
    have e := frzK_eq (show frzK kvs = some ds from h)
    subst e
    obtain ⟨a, xs, o', e1, e2, e3, e4⟩ := r
    exact ⟨a, xs, e1, .inl e2, (rpTk_of e3).1⟩
  | _ => cases h
section
variable {X : Cx} {o i x : Expr} {to ti tx : TE} {fo fi fx : EF} {pos apos : Pos}
/-- d[k] -/
def eDix (fo fi : EF) : EF := fun env => (fo env).bind fun r => (fi r.2).bind fun s => (dicT r.1).bind fun ds => (keyT s.1).bind fun k => (valD ds k).map fun d => (.p d, s.2)
theorem dt_dix (hu : X.A.units + 1 < cLine) (ho : DV X o to fo) (hi : DT X i ti fi) (hs : NoSl i := by exact fun _ _ => rfl) : DT X (.Subscript o i pos) (tDGet to ti) (eDix fo fi) := by
  refine ⟨pe_dget hu ho.pe hi.pe hs, ?_⟩
  intro G0 H0 W H ts vs env σ t env' S g Q q
  obtain ⟨⟨y, e1⟩, g1, g2⟩ := obind g
  obtain ⟨⟨z, e2⟩, g3, g4⟩ := obind g2
  obtain ⟨ds, g5, g6⟩ := obind g4
  obtain ⟨k, g7, g8⟩ := obind g6
  obtain ⟨d, g9, g10⟩ := omap g8
  cases g10
  cases z with
  | p kd =>
    refine ho.ok _ _ _ _ _ _ _ _ _ _ S g1 _ fun v H1 s1 S1 => ?_
    refine hi.ok _ _ _ _ _ _ _ _ _ _ S1 g3 _ fun w H2 s2 S2 => ?_
    have ew : w = kV k := keyD_rp (show keyD kd = some k from g7) S2.top
    obtain ⟨G, ot, oe, s⟩ := S2.pop
    obtain ⟨a, xs, ev, ha, rr⟩ := s.dic (t := y) (v := v) (by simp) g5
    obtain ⟨u, u1, u2⟩ := (rr.val k).2 d g9
    refine ⟨a, u, ev, by rw [ew, ← u1]; exact (.inl ⟨_, _, ha, rfl, rfl⟩ : DGet _ _ _ _), ?_⟩
    have s' : St0 X.K G0 H0 W G H2 ts vs _ σ ot oe := ⟨s.tmp, s.env, s.nd, s.fr, s.g0, s.gh, s.h0, s.nw, fun q hq => s.vw q (List.mem_cons_of_mem _ hq)⟩
    have S3 := OkS.pushD (ds := [d]) (xs := [u]) s' ⟨u, [], rfl, u2, rfl⟩
    exact q u H2 (s1.trans s2) S3
  | _ => cases g7
/-- d.get(k, x) -/
def eDget (fo fi fx : EF) : EF := fun env => (fo env).bind fun r => (fi r.2).bind fun s => (fx s.2).bind fun u => (dicT r.1).bind fun ds => (keyT s.1).bind fun k => match u.1 with
  | .p z => some (.p ((valD ds k).getD z), u.2)
  | _ => none
theorem dt_dget {cpos : Pos} (hu : X.A.units + 1 < cLine) (ho : DV X o to fo) (hi : DT X i ti fi) (hx : DT X x tx fx) (m : M2 X o "get" apos i x cpos := by exact ⟨by rfl, by rfl, by rfl, by rfl⟩) : DT X (.Call (.Attribute o "get" apos) [i, x] [] cpos) (tDGet2 to ti tx) (eDget fo fi fx) := by
  refine ⟨pe_dget2 hu ho.pe hi.pe hx.pe m, ?_⟩
  intro G0 H0 W H ts vs env σ t env' S g Q q
  obtain ⟨⟨y, e1⟩, g1, g2⟩ := obind g
  obtain ⟨⟨z, e2⟩, g3, g4⟩ := obind g2
  obtain ⟨⟨u, e3⟩, g5, g6⟩ := obind g4
  obtain ⟨ds, g7, g8⟩ := obind g6
  obtain ⟨k, g9, g10⟩ := obind g8
  cases z with
  | p kd =>
    cases u with
    | p ud =>
      have g10 : some (T.p ((valD ds k).getD ud), e3) = some (t, env') := g10
      cases g10
      refine ho.ok _ _ _ _ _ _ _ _ _ _ S g1 _ fun v H1 s1 S1 => ?_
      have isd : ∃ a, v = .ref a ∧ IsD H1 a := by
        obtain ⟨G, ot, oe, s⟩ := S1
        obtain ⟨a, xs, ev, ha, _⟩ := s.dic (t := y) (v := v) (by simp) g7
        exact ⟨a, ev, .inl ⟨xs, ha⟩⟩
      obtain ⟨a0, ev0, hd⟩ := isd
      refine ⟨a0, ev0, hd, ?_⟩
      refine hi.ok _ _ _ _ _ _ _ _ _ _ S1 g3 _ fun w H2 s2 S2 => ?_
      have ew : w = kV k := keyD_rp (show keyD kd = some k from g9) S2.top
      refine hx.ok _ _ _ _ _ _ _ _ _ _ S2.pop g5 _ fun uu H3 s3 S3 => ?_
      obtain ⟨G, ot, oe, s⟩ := S3
      obtain ⟨a, xs, ev, ha, rr⟩ := s.dic (t := y) (v := v) (by simp) g7
      rw [ev0] at ev
      cases ev
      have s' : St0 X.K G0 H0 W G H3 (.p ud :: ts) (uu :: vs) _ σ ot oe := ⟨s.tmp, s.env, s.nd, s.fr, s.g0, s.gh, s.h0, s.nw, fun q hq => s.vw q (List.mem_cons_of_mem _ hq)⟩
      refine ⟨valV xs k, by rw [ew]; exact (.inl ⟨_, _, ha, rfl, rfl⟩ : DGet _ _ _ _), ?_⟩
      cases hv : valD ds k with
      | none =>
        rw [(rr.val k).1 hv]
        rw [hv] at q
        exact q uu H3 ((s1.trans s2).trans s3) ⟨G, ot, oe, s'⟩
      | some d =>
        obtain ⟨n, n1, n2⟩ := (rr.val k).2 d hv
        rw [n1]
        rw [hv] at q
        have S4 := OkS.pushD (ds := [d]) (xs := [n]) s' ⟨n, [], rfl, n2, rfl⟩
        have S5 : OkS X.K G0 H0 W H3 (.p ud :: .p d :: ts) (uu :: n :: vs) _ σ := OkS.mid (us := [.p d]) (ws := [n]) rfl S4
        exact q n H3 ((s1.trans s2).trans s3) S5.pop
    | _ => cases g10
  | _ => cases g9
/-- k in d -/
def eDin (b : Bool) (fi fo : EF) : EF := fun env => (fi env).bind fun s => (fo s.2).bind fun r => (dicT r.1).bind fun ds => (keyT s.1).bind fun k => some (.p (.bl (if b then (valD ds k).isSome else !(valD ds k).isSome)), r.2)
theorem ev_din (b : Bool) {td : TE} (htd : td = if b then tDIn ti to else tDNotIn ti to) (ho : EvV X.K to fo) (hi : EvV X.K ti fi) : EvT X.K td (eDin b fi fo) := by
  intro G0 H0 W H ts vs env σ t env' S g Q q
  obtain ⟨⟨z, e1⟩, g1, g2⟩ := obind g
  obtain ⟨⟨y, e2⟩, g3, g4⟩ := obind g2
  obtain ⟨ds, g5, g6⟩ := obind g4
  obtain ⟨k, g7, g8⟩ := obind g6
  cases g8
  cases z with
  | p kd =>
    have main : ti σ H fun w H1 => to σ H1 fun v H2 => ∃ a o, v = .ref a ∧ DGet H2 a w o ∧ Q (.bl (if b then o.isSome else !o.isSome)) H2 := by
      refine hi _ _ _ _ _ _ _ _ _ _ S g1 _ fun w H1 s1 S1 => ?_
      refine ho _ _ _ _ _ _ _ _ _ _ S1 g3 _ fun v H2 s2 S2 => ?_
      have ew : w = kV k := keyD_rp (show keyD kd = some k from g7) (S2.see (q := (.p kd, w)) (by simp))
      obtain ⟨G, ot, oe, s⟩ := S2
      obtain ⟨a, xs, ev, ha, rr⟩ := s.dic (t := y) (v := v) (by simp) g5
      have s' : St0 X.K G0 H0 W G H2 ts vs _ σ ot oe := ⟨s.tmp, s.env, s.nd, s.fr, s.g0, s.gh, s.h0, s.nw, fun q hq => s.vw q (List.mem_cons_of_mem _ (List.mem_cons_of_mem _ hq))⟩
      have same : (valV xs k).isSome = (valD ds k).isSome := by
        cases hv : valD ds k with
        | none => rw [(rr.val k).1 hv]; rfl
        | some d => obtain ⟨n, n1, _⟩ := (rr.val k).2 d hv; rw [n1]; rfl
      refine ⟨a, valV xs k, ev, by rw [ew]; exact (.inl ⟨_, _, ha, rfl, rfl⟩ : DGet _ _ _ _), ?_⟩
      rw [same]
      exact q _ H2 (s1.trans s2) (OkS.scal ⟨G, ot, oe, s'⟩ fun _ => rfl)
    subst htd
    cases b with
    | true => exact main
    | false => exact main
  | _ => cases g7
theorem dt_din (hu : X.A.units + 1 < cLine) (hi : DV X i ti fi) (ho : DV X o to fo) (hm : behindInMarks .In o = false := by with_unfolding_all rfl) : DT X (.Compare i [.In] [o] pos) (tDIn ti to) (eDin true fi fo) := ⟨pe_cmp (pc_din hu hi.pe ho.pe) hm, ev_din true rfl ho.ok hi.ok⟩
theorem dt_dnin (hu : X.A.units + 1 < cLine) (hi : DV X i ti fi) (ho : DV X o to fo) (hm : behindInMarks .NotIn o = false := by with_unfolding_all rfl) : DT X (.Compare i [.NotIn] [o] pos) (tDNotIn ti to) (eDin false fi fo) := ⟨pe_cmp (pc_dnotin hu hi.pe ho.pe) hm, ev_din false rfl ho.ok hi.ok⟩
end
end DL

set_option Elab.async false
set_option linter.all false
set_option maxRecDepth 100000
/-! A walk over a list whose items are handed on, to be changed in place. -/
namespace DL
open PySem PySem.Spec PyProof.Rows L2
section
variable {K : PySem.W.Frag} {G0 H0 H : Hp} {W : List (T × V)} {ts : List T} {vs : List V} {env : Env} {σ : St} {t : T} {v : V}
theorem OkS.shell {us : List T} (S : OkS K G0 H0 W H (.lst us :: ts) (v :: vs) env σ) : ∃ a xs G1, v = .ref a ∧ Gst G0 H0 G1 ∧ Same G1 H ∧ H a = some (.lst xs) ∧ G1 a = some (.lst xs) ∧ xs.length = us.length ∧ OkS K G1 H0 W H (us ++ ts) (xs ++ vs) env σ := by
  obtain ⟨G, ot, oe, s⟩ := S
  obtain ⟨v0, r0, oa, ob, h1, ⟨a, xs, o1, e1, e2, e3, e4⟩, h3, h4⟩ := s.tmp
  cases h1
  have nd := s.nd
  rw [h4, e4] at nd
  have nd' : (a :: (o1 ++ (ob ++ oe))).Nodup := by simpa using nd
  have na : ∀ b ∈ o1 ++ (ob ++ oe), b ≠ a := fun b hb e => by
    subst e
    exact (List.nodup_cons.mp nd').1 hb
  have fr : ∀ b ∈ a :: (o1 ++ (ob ++ oe)), G b = none ∧ H0 b = none := fun b hb => s.fr b (by rw [h4, e4]; simpa using hb)
  have ga := fr a (by simp)
  have sG : Same G (upd G a (.lst xs)) := fun b u e => by
    have : b ≠ a := fun z => by subst z; rw [ga.1] at e; cases e
    rw [upd_ne this]; exact e
  have sH : Same (upd G a (.lst xs)) H := fun b u e => by
    by_cases c : b = a
    · subst c; rw [upd_same] at e; cases e; exact e2
    · rw [upd_ne c] at e; exact s.gh b u e
  have k0 : ∀ o : List Addr, ∀ b ∈ o, H b = H b := fun _ _ _ => rfl
  have t1 : RpTs K (upd G a (.lst xs)) H us xs o1 := e3.mono sG _ (k0 _)
  have t2 : RpTs K (upd G a (.lst xs)) H ts vs ob := h3.mono sG _ (k0 _)
  refine ⟨a, xs, upd G a (.lst xs), e1, ⟨s.g0.trans sG, fun b o e => ?_⟩, sH, e2, upd_same, e3.len, upd G a (.lst xs), o1 ++ ob, oe, t1.append t2, s.env.mono sG _ (k0 _), by simpa using (List.nodup_cons.mp nd').2, fun b hb => ?_, Same.refl _, sH, s.h0, fun b o e => .inl (by rw [e]; simp), fun q hq => ?_⟩
  · by_cases c : b = a
    · subst c; exact .inr (.inl ga.2)
    · rw [upd_ne c] at e; exact s.nw b o e
  · have hb' : b ∈ o1 ++ (ob ++ oe) := by simpa using hb
    have := fr b (List.mem_cons_of_mem _ hb')
    exact ⟨by rw [upd_ne (na b hb')]; exact this.1, this.2⟩
  · obtain ⟨o, h⟩ := s.vw q hq
    exact ⟨o, h.mono sG _ (k0 _)⟩
theorem OkS.pops : ∀ {us : List T} {ws : List V}, ws.length = us.length → OkS K G0 H0 W H (us ++ ts) (ws ++ vs) env σ → OkS K G0 H0 W H ts vs env σ
  | [], [], _, S => S
  | u :: us, w :: ws, hl, S => OkS.pops (us := us) (ws := ws) (by simpa using hl) (OkS.pop S)
  | [], _ :: _, hl, _ => by simp at hl
  | _ :: _, [], hl, _ => by simp at hl
theorem OkS.pops1 : ∀ {us : List T} {ws : List V}, ws.length = us.length → OkS K G0 H0 W H (t :: (us ++ ts)) (v :: (ws ++ vs)) env σ → OkS K G0 H0 W H (t :: ts) (v :: vs) env σ
  | [], [], _, S => S
  | u :: us, w :: ws, hl, S => OkS.pops1 (us := us) (ws := ws) (by simpa using hl) (OkS.pop (OkS.mid (us := [t]) (ws := [v]) rfl S))
  | [], _ :: _, hl, _ => by simp at hl
  | _ :: _, [], hl, _ => by simp at hl
end
def loopT (G : GF) (body : SF) : List T → Env → Option (Fl × Env)
  | [], env => some (.nx, env)
  | t :: ts, env => (G t env).bind fun e1 => (body e1).bind fun r => match r.1 with
    | .nx => loopT G body ts r.2
    | .ct => loopT G body ts r.2
    | .bk => some (.nx, r.2)
    | .rt t => some (.rt t, r.2)
def sForM (f : EF) (G : GF) (body : SF) : SF := fun env => (f env).bind fun r => match r.1 with
  | .lst us => loopT G body us r.2
  | _ => none
theorem ds_forM {X : Cx} {tg iter : Expr} {body : List Stmt} {te : TE} {f : EF} {g : TG} {G : GF} {tb : TS} {F : SF} {pos : Pos} {sl sl2 : List Nat} (hp : PassesOwn (model X.prog X.w) X.A X.env X.xe) (hc : X.calm = true) (h : DT X iter te f) (hg : DG X tg g G sl) (hb : DSs X body tb F sl2)
    (hs : ∀ x, foldedSetIterable iter X.env x = pure x := by intro _; rfl) : DS X (.For tg iter body [] pos) (tFor (iList X.K te) g tb) (sForM f G F) (sl ++ sl2) := by
  refine ⟨ps_for hp hc (pi_list h.pe) hg.pg hb.ps hs, ?_⟩
  intro G0 H0 H ts vs env σ fl env' S e D q
  obtain ⟨⟨t, e1⟩, g1, g2⟩ := obind e
  cases t with
  | lst us =>
    have g2 : loopT G F us e1 = some (fl, env') := g2
    refine h.ok _ _ _ _ _ _ _ _ _ _ S g1 _ fun v H1 s1 S1 => ?_
    obtain ⟨a, xs, G1, ev, gst, sG, hH, hG, hlen, S2⟩ := S1.shell
    refine ⟨a, ev, ⟨xs, .inl (.inl hH)⟩, ?_⟩
    refine ⟨fun i m σ2 H => m = us.length - i ∧ i ≤ us.length ∧ Dif (sl ++ sl2) σ σ2 ∧ ∃ env, OkS X.K G1 H0 [] H (us.drop i ++ ts) (xs.drop i ++ vs) env σ2 ∧ loopT G F (us.drop i) env = some (fl, env'), ⟨us.length, by simp, Nat.zero_le _, .rfl', e1, S2, by simpa using g2⟩, ?_⟩
    rintro i m σ2 H2 ⟨rfl, hle, df, env2, S3, hl⟩
    have hq2 : Rd H2 a (.lst xs) := .inl (S3.same _ _ hG)
    by_cases hlt : i < us.length
    · have hx : i < xs.length := by omega
      refine .inr ⟨⟨xs, xs[i], .inl hq2, List.getElem?_eq_getElem hx⟩, fun σ' H' => i + 1 ≤ us.length ∧ Dif (sl ++ sl2) σ σ' ∧ ∃ env, OkS X.K G1 H0 [] H' (us.drop (i + 1) ++ ts) (xs.drop (i + 1) ++ vs) env σ' ∧ loopT G F (us.drop (i + 1)) env = some (fl, env'), fun σ' H' ⟨h1, h2⟩ => ⟨us.length - (i + 1), by omega, rfl, h1, h2⟩, fun y H3 hy => ?_⟩
      obtain ⟨eH, hy⟩ := hy
      subst eH
      have ey : xs[i] = y := by
        have := hy xs (.inl hq2)
        rw [List.getElem?_eq_getElem hx] at this
        exact Option.some.inj this
      subst ey
      rw [List.drop_eq_getElem_cons hlt, List.drop_eq_getElem_cons hx, List.cons_append, List.cons_append] at S3
      rw [List.drop_eq_getElem_cons hlt] at hl
      have hl2 : (xs.drop (i + 1)).length = (us.drop (i + 1)).length := by simp [hlen]
      obtain ⟨e2, l1, l2⟩ := obind hl
      obtain ⟨⟨fl2, e3⟩, l3, l4⟩ := obind l2
      refine hg.ok _ _ _ _ _ _ _ _ _ _ _ S3 l1 _ fun σ' S' f1 => ?_
      refine hb.ok _ _ _ _ _ _ _ _ _ S' l3 _ ?_
      cases fl2 with
      | nx => exact fun H' σ4 S4 f2 => ⟨hlt, df.two (f1.tr f2), e3, S4, l4⟩
      | ct => exact fun H' σ4 S4 f2 => ⟨hlt, df.two (f1.tr f2), e3, S4, l4⟩
      | bk => cases l4; exact fun H' σ4 S4 f2 => q H' σ4 ((OkS.pops hl2 S4).back gst) (df.two (f1.tr f2))
      | rt t => cases l4; exact fun v H' σ' S4 f2 => q v H' σ' ((OkS.pops1 hl2 S4).back gst) (df.two (f1.tr f2))
    · have hi' : i = us.length := by omega
      subst hi'
      rw [List.drop_length] at hl
      cases hl
      have S4 := OkS.pops (us := us.drop us.length) (ws := xs.drop us.length) (by simp [hlen]) S3
      exact .inl ⟨⟨xs, .inl hq2, by rw [hlen]; exact Nat.le_refl _⟩, q H2 σ2 (S4.back gst) df⟩
  | _ => cases g2
/-- s.m() of a text -/
def eM0 (g : Str → Option D) (fo : EF) : EF := fun env => (fo env).bind fun x => match x.1 with
  | .p (.str a) => (g a).map fun d => (.p d, x.2)
  | _ => none
def gRstrip (a : Str) : Option D := if a.length ≤ 16777216 then some (.str (Txt.rstrip a)) else none
section
variable {X : Cx} {o : Expr} {to : TE} {fo : EF} {apos pos : Pos}
theorem dt_rstrip (ho : DT X o to fo) (hbase : attributeBase o "rstrip" X.env (eval o X.env) = eval o X.env := by rfl) (hline : (apos.endLine == pos.line) = true := by rfl) :
    DT X (.Call (.Attribute o "rstrip" apos) [] [] pos) (tM0 (fun x xs H Q => ∃ a, x = .str a ∧ xs = [] ∧ a.length ≤ sizeLine ∧ Q (.str (Txt.rstrip a)) H) to) (eM0 gRstrip fo) := by
  refine ⟨pe_m0 F.slot_str_rstrip F.type_str_rstrip mt_rstrip ho.pe hbase hline, ?_⟩
  intro G0 H0 W H ts vs env σ t env' S g Q q
  obtain ⟨⟨x, e1⟩, h1, h2⟩ := obind g
  dsimp only at h2
  split at h2
  · rename_i a
    obtain ⟨d, h3, h4⟩ := omap h2
    cases h4
    unfold gRstrip at h3
    by_cases hc : a.length ≤ 16777216
    · rw [if_pos hc] at h3
      cases h3
      refine ho.ok _ _ _ _ _ _ _ _ _ _ S h1 _ fun v H1 s1 S1 => ?_
      have ev : v = .str a := S1.top
      exact ⟨⟨a, ev⟩, a, ev, rfl, by rw [sizeLine_eq]; exact hc, q _ H1 s1 (S1.pop.scal fun _ => rfl)⟩
    · rw [if_neg hc] at h3; cases h3
  · cases h2
end
/-- range with a step -/
def rng3D (lo c : Int) (n : Nat) : List D := (List.range n).map fun (k : Nat) => D.int (lo + (k : Nat) * c)
theorem itOk_rc {K : PySem.W.Frag} {G1 : Hp} {lo c : Int} {n : Nat} : ItOk K G1 (Itc lo c n) (rng3D lo c n) where
  go := fun i H s hi => by show i < n; simpa [rng3D] using hi
  stop := fun H s => by show n ≤ _; simp [rng3D]
  yld := fun i H x H' d s hd y => by
    obtain ⟨e, y⟩ := y
    refine .inl ⟨e, ?_⟩
    by_cases hi : i < n
    · simp [rng3D, hi] at hd
      subst hd
      exact y
    · simp [rng3D, hi] at hd
def iR3 (f : AF) : IF := fun env => (f env).bind fun r => match r.1 with
  | [.p (.int i), .p (.int j), .p (.int c)] => if c ≠ 0 ∧ c.natAbs < 1073741824 ∧ Builtin.Range.small i j c = true ∧ Builtin.Range.rangeSize i j c = ((Builtin.Range.rangeSize i j c).toNat : Int) then some (rng3D i c (Builtin.Range.rangeSize i j c).toNat, r.2) else none
  | _ => none
theorem di_range3 {X : Cx} {tg a b c : Expr} {ta : TA} {f : AF} {p pos : Pos} (hg : Gl X "range") (hm : X.mg "range" = none) (h : DA X [a, b, c] ta f) (hs : starEach [a, b, c] X.env = (false, eval a X.env) :: starEach [b, c] X.env := by rfl) (hpl : (backTo pos (starEach [b, c] X.env)).any (·.1) = false := by rfl) :
    DI X tg (.Call (.Name "range" p) [a, b, c] [] pos) (iRng3 ta) (iR3 f) := by
  refine ⟨pi_range3 hg hm h.pa hs hpl, ?_⟩
  intro G0 H0 W H ts vs env σ ds env' S g R r
  obtain ⟨⟨us, e1⟩, g1, g2⟩ := obind g
  refine h.ok _ _ _ _ _ _ _ _ _ _ S g1 _ fun ws H1 s1 hl S1 => ?_
  dsimp only at g2
  split at g2
  · rename_i i j k
    split at g2
    · rename_i hj
      cases g2
      match ws, hl with
      | [w1, w2, w3], _ =>
        have e1 : w1 = .int i := S1.top
        have e2 : w2 = .int j := (show OkS X.K G0 H0 W H1 (.p (.int j) :: (.p (.int k) :: ts)) (w2 :: (w3 :: vs)) _ σ from S1.pop).top
        have e3 : w3 = .int k := (show OkS X.K G0 H0 W H1 (.p (.int k) :: ts) (w3 :: vs) _ σ from S1.pop.pop).top
        obtain ⟨G1, gst, sG, S2⟩ := OkS.fix (show OkS X.K G0 H0 W H1 ts vs _ σ from S1.pop.pop.pop)
        exact ⟨i, j, k, _, by rw [e1, e2, e3], hj, r _ _ G1 s1 gst itOk_rc S2⟩
    · cases g2
  · cases g2
end DL

set_option Elab.async false
set_option linter.all false
set_option maxRecDepth 100000
/-! The combinators once more without binders: each step of a walk by its equation (for simp: nothing is looked at before its turn). -/
namespace DL
open PySem PySem.Spec PyProof.Rows L2
variable {env e : Env} {i j n k : Nat} {t u : T} {ts us : List T} {d a b : D} {ds es : List D} {fa fb fc f : EF} {r : AF} {c c2 : CF} {F1 F2 F : SF} {G : GF} {gs : GsF} {z w : Int}
theorem bindS {α β : Type} {x : α} {g : α → Option β} : (some x).bind g = g x := id rfl
theorem mapS {α β : Type} {x : α} {g : α → β} : Option.map g (some x) = some (g x) := id rfl
-- leaves
def kV (env : Env) (i : Nat) : Option (Option T) → Option (T × Env)
  | some (some (.p d)) => some (.p d, env)
  | some (some t) => some (.p t.toD, env.set i (some (.p t.toD)))
  | _ => none
theorem eV_q : eV i env = kV env i env[i]? := id rfl
theorem kV_p : kV env i (some (some (.p d))) = some (.p d, env) := id rfl
theorem kV_l : kV env i (some (some (.lst ts))) = some (.p (T.lst ts).toD, env.set i (some (.p (T.lst ts).toD))) := id rfl
theorem kV_t : kV env i (some (some (.tup ts))) = some (.p (T.tup ts).toD, env.set i (some (.p (T.tup ts).toD))) := id rfl
def kM (env : Env) (i : Nat) : Option (Option T) → Option (T × Env)
  | some (some t) => some (t, env.set i none)
  | _ => none
theorem eM_q : eM i env = kM env i env[i]? := id rfl
theorem kM_s : kM env i (some (some t)) = some (t, env.set i none) := id rfl
def kB (env : Env) : Option (Option T) → Option (T × Env)
  | some (some t) => some (t, env)
  | _ => none
theorem eB_q : eB i env = kB env env[i]? := id rfl
theorem kB_s : kB env (some (some t)) = some (t, env) := id rfl
theorem eC_q : eC d env = some (.p d, env) := id rfl
def kW : T × Env → Option (T × Env)
  | (.p d, e) => some (.p d, e)
  | _ => none
theorem eW_q : eW f env = (f env).bind kW := by
  unfold eW; congr 1; funext r; obtain ⟨t, e⟩ := r; cases t <;> rfl
theorem kW_p : kW (.p d, e) = some (.p d, e) := id rfl
theorem aN_q : aN env = some ([], env) := id rfl
def kCons (t : T) (y : List T × Env) : List T × Env := (t :: y.1, y.2)
def kAC (r : AF) (x : T × Env) : Option (List T × Env) := (r x.2).map (kCons x.1)
theorem aC_q : aC f r env = (f env).bind (kAC r) := id rfl
theorem kAC_q : kAC r (t, e) = (r e).map (kCons t) := id rfl
theorem kCons_q : kCons t (ts, e) = (t :: ts, e) := id rfl
def kMv3 (ts : List T) (e : Env) (i : Nat) : Option (Option T) → Option (List T × Env)
  | some (some t) => some (t :: ts, e.set i none)
  | _ => none
def kMv2 (i : Nat) (y : List T × Env) : Option (List T × Env) := kMv3 y.1 y.2 i y.2[i]?
def kMv (i : Nat) (r : AF) (env : Env) : Option (Option T) → Option (List T × Env)
  | some (some _) => (r env).bind (kMv2 i)
  | _ => none
theorem aMv_q : aMv i r env = kMv i r env env[i]? := id rfl
theorem kMv_s : kMv i r env (some (some t)) = (r env).bind (kMv2 i) := id rfl
theorem kMv2_q : kMv2 i (ts, e) = kMv3 ts e i e[i]? := id rfl
theorem kMv3_s : kMv3 ts e i (some (some t)) = some (t :: ts, e.set i none) := id rfl
def kL (x : List T × Env) : Option (T × Env) := if x.1.length ≤ 1000 then some (.lst x.1, x.2) else none
theorem eL_q : eL r env = (r env).bind kL := id rfl
theorem kL_q : kL (ts, e) = if ts.length ≤ 1000 then some (.lst ts, e) else none := id rfl
def kT (x : List T × Env) : Option (T × Env) := if x.1.length ≤ 1000 then some (mkTup x.1, x.2) else none
theorem eT_q : eT r env = (r env).bind kT := id rfl
theorem kT_q : kT (ts, e) = if ts.length ≤ 1000 then some (mkTup ts, e) else none := id rfl
-- ends of steps
def kP (e : Env) (d : D) : T × Env := (.p d, e)
theorem kP_q : kP e d = (.p d, e) := id rfl
def kBl (e : Env) (c : Bool) : T × Env := (.p (.bl c), e)
theorem kBl_q {c : Bool} : kBl e c = (.p (.bl c), e) := id rfl
def kT2 (e : Env) (t : T) : T × Env := (t, e)
theorem kT2_q : kT2 e t = (t, e) := id rfl
def kFz (r : T × Env) : T × Env := (.p r.1.toD, r.2)
theorem eFz_q : eFz f env = (f env).map kFz := id rfl
theorem kFz_q : kFz (t, e) = (.p t.toD, e) := id rfl
-- operators
def kOp2 (g : D → D → Option D) (x : T) : T × Env → Option (T × Env)
  | (.p b, e) => match x with | .p a => (g a b).map (kP e) | _ => none
  | _ => none
def kOp1 (g : D → D → Option D) (fb : EF) (x : T × Env) : Option (T × Env) := (fb x.2).bind (kOp2 g x.1)
theorem eOp_q {g : D → D → Option D} : eOp g fa fb env = (fa env).bind (kOp1 g fb) := by
  unfold eOp; congr 1; funext x; unfold kOp1; congr 1; funext y; obtain ⟨y, e⟩ := y; obtain ⟨x, e'⟩ := x; cases x <;> cases y <;> rfl
theorem kOp1_q {g : D → D → Option D} : kOp1 g fb (t, e) = (fb e).bind (kOp2 g t) := id rfl
theorem kOp2_q {g : D → D → Option D} : kOp2 g (.p a) (.p b, e) = (g a b).map (kP e) := id rfl
def kCm2 (g : D → D → Option Bool) (x : T) (y : T × Env) : Option (T × Env) := (g x.toD y.1.toD).map (kBl y.2)
def kCm1 (g : D → D → Option Bool) (fb : EF) (x : T × Env) : Option (T × Env) := (fb x.2).bind (kCm2 g x.1)
theorem eCmp_q {g : D → D → Option Bool} : eCmp g fa fb env = (fa env).bind (kCm1 g fb) := id rfl
theorem kCm1_q {g : D → D → Option Bool} : kCm1 g fb (t, e) = (fb e).bind (kCm2 g t) := id rfl
theorem kCm2_q {g : D → D → Option Bool} : kCm2 g t (u, e) = (g t.toD u.toD).map (kBl e) := id rfl
def kNeg : T × Env → Option (T × Env)
  | (.p (.int i), e) => some (.p (.int (-i)), e)
  | _ => none
theorem eNeg_q : eNeg f env = (f env).bind kNeg := by
  unfold eNeg; congr 1; funext x; obtain ⟨x, e⟩ := x; cases x with
  | p d => cases d <;> rfl
  | _ => rfl
theorem kNeg_q : kNeg (.p (.int z), e) = some (.p (.int (-z)), e) := id rfl
def kCh3 (g : Int → Int → Bool) (j : Int) : T × Env → Option (T × Env)
  | (.p (.int k), e) => some (.p (.bl (g j k)), e)
  | _ => none
def kCh2 (f g : Int → Int → Bool) (fc : EF) (x : T) (y : T × Env) : Option (T × Env) := match x, y.1 with
  | .p (.int i), .p (.int j) => if f i j then (fc y.2).bind (kCh3 g j) else some (.p (.bl false), y.2)
  | _, _ => none
def kCh1 (f g : Int → Int → Bool) (fb fc : EF) (x : T × Env) : Option (T × Env) := (fb x.2).bind (kCh2 f g fc x.1)
theorem eChain_q {f g : Int → Int → Bool} : eChain f g fa fb fc env = (fa env).bind (kCh1 f g fb fc) := by
  unfold eChain; congr 1; funext x; unfold kCh1; congr 1; funext y
  obtain ⟨x, ex⟩ := x; obtain ⟨y, ey⟩ := y
  cases x with
  | p d => cases d with
    | int i => cases y with
      | p d2 => cases d2 with
        | int j =>
          show (if f i j = true then _ else _) = (if f i j = true then _ else _)
          congr 1; congr 1; funext z; obtain ⟨z, e⟩ := z; cases z with
            | p d => cases d <;> rfl
            | _ => rfl
        | _ => rfl
      | _ => rfl
    | _ => rfl
  | _ => rfl
theorem kCh1_q {f g : Int → Int → Bool} : kCh1 f g fb fc (t, e) = (fb e).bind (kCh2 f g fc t) := id rfl
theorem kCh2_q {f g : Int → Int → Bool} : kCh2 f g fc (.p (.int z)) (.p (.int w), e) = if f z w then (fc e).bind (kCh3 g w) else some (.p (.bl false), e) := id rfl
theorem kCh3_q {g : Int → Int → Bool} : kCh3 g z (.p (.int w), e) = some (.p (.bl (g z w)), e) := id rfl
-- tests
def kcT : T × Env → Option (Bool × Env)
  | (.p (.bl b), e) => some (b, e)
  | _ => none
theorem cT_q : cT f env = (f env).bind kcT := by
  unfold cT; congr 1; funext x; obtain ⟨x, e⟩ := x; cases x with
  | p d => cases d <;> rfl
  | _ => rfl
theorem kcT_q {b : Bool} : kcT (.p (.bl b), e) = some (b, e) := id rfl
def kNot (r : Bool × Env) : Bool × Env := (!r.1, r.2)
theorem cNot_q : cNot c env = (c env).map kNot := id rfl
theorem kNot_q {b : Bool} : kNot (b, e) = (!b, e) := id rfl
def kcAnd (d : CF) (r : Bool × Env) : Option (Bool × Env) := if r.1 then d r.2 else some (false, r.2)
theorem cAnd_q : cAnd c c2 env = (c env).bind (kcAnd c2) := id rfl
theorem kcAnd_t : kcAnd c (true, e) = c e := id rfl
theorem kcAnd_f : kcAnd c (false, e) = some (false, e) := id rfl
def kcOr (d : CF) (r : Bool × Env) : Option (Bool × Env) := if r.1 then some (true, r.2) else d r.2
theorem cOr_q : cOr c c2 env = (c env).bind (kcOr c2) := id rfl
theorem kcOr_t : kcOr c (true, e) = some (true, e) := id rfl
theorem kcOr_f : kcOr c (false, e) = c e := id rfl
def keIf (fa fb : EF) (r : Bool × Env) : Option (T × Env) := if r.1 then fa r.2 else fb r.2
theorem eIf_q : eIf c fa fb env = (c env).bind (keIf fa fb) := id rfl
theorem keIf_t : keIf fa fb (true, e) = fa e := id rfl
theorem keIf_f : keIf fa fb (false, e) = fb e := id rfl
def keAnd (fb : EF) (r : Bool × Env) : Option (T × Env) := if r.1 then fb r.2 else some (.p (.bl false), r.2)
theorem eAnd_q : eAnd fa fb env = (cT fa env).bind (keAnd fb) := id rfl
theorem keAnd_t : keAnd fb (true, e) = fb e := id rfl
theorem keAnd_f : keAnd fb (false, e) = some (.p (.bl false), e) := id rfl
def keOr (fb : EF) (r : Bool × Env) : Option (T × Env) := if r.1 then some (.p (.bl true), r.2) else fb r.2
theorem eOr_q : eOr fa fb env = (cT fa env).bind (keOr fb) := id rfl
theorem keOr_t : keOr fb (true, e) = some (.p (.bl true), e) := id rfl
theorem keOr_f : keOr fb (false, e) = fb e := id rfl
def keNot (r : Bool × Env) : T × Env := (.p (.bl (!r.1)), r.2)
theorem eNot_q : eNot fa env = (cT fa env).map keNot := id rfl
theorem keNot_q {b : Bool} : keNot (b, e) = (.p (.bl (!b)), e) := id rfl
def kcIf (F1 F2 : SF) (r : Bool × Env) : Option (Fl × Env) := if r.1 then F1 r.2 else F2 r.2
theorem sIf_q : sIf c F1 F2 env = (c env).bind (kcIf F1 F2) := id rfl
theorem kcIf_t : kcIf F1 F2 (true, e) = F1 e := id rfl
theorem kcIf_f : kcIf F1 F2 (false, e) = F2 e := id rfl
-- calls
def kB1 (g : T → Option D) (x : T × Env) : Option (T × Env) := (g x.1).map (kP x.2)
theorem eB1_q {g : T → Option D} : eB1 g f env = (f env).bind (kB1 g) := id rfl
theorem kB1_q {g : T → Option D} : kB1 g (t, e) = (g t).map (kP e) := id rfl
def kI2 (g : Int → Int → Int) (r : List T × Env) : Option (T × Env) := match r.1 with
  | [.p (.int i), .p (.int j)] => some (.p (.int (g i j)), r.2)
  | _ => none
theorem eI2_q {g : Int → Int → Int} : eI2 g r env = (r env).bind (kI2 g) := id rfl
theorem kI2_q {g : Int → Int → Int} : kI2 g ([.p (.int z), .p (.int w)], e) = some (.p (.int (g z w)), e) := id rfl
def kIsi (ty : String) (x : T × Env) : Option (T × Env) := if tyOk x.1.toD = true then (kitB (tyD x.1.toD) ty).map (kBl x.2) else none
theorem eIsi_q {ty : String} : eIsi ty f env = (f env).bind (kIsi ty) := id rfl
theorem kIsi_q {ty : String} : kIsi ty (t, e) = if tyOk t.toD = true then (kitB (tyD t.toD) ty).map (kBl e) else none := id rfl
def kLst (e : Env) (ds : List D) : T × Env := (.lst (ds.map T.p), e)
theorem kLst_q : kLst e ds = (.lst (ds.map T.p), e) := id rfl
def kList (x : T × Env) : Option (T × Env) := (itemsT x.1).map (kLst x.2)
theorem eList_q : eList f env = (f env).bind kList := id rfl
theorem kList_q : kList (t, e) = (itemsT t).map (kLst e) := id rfl
def kTpl (e : Env) (ds : List D) : T × Env := (.p (.tup ds), e)
theorem kTpl_q : kTpl e ds = (.p (.tup ds), e) := id rfl
def kTuple (x : T × Env) : Option (T × Env) := (itemsT x.1).map (kTpl x.2)
theorem eTuple_q : eTuple f env = (f env).bind kTuple := id rfl
theorem kTuple_q : kTuple (t, e) = (itemsT t).map (kTpl e) := id rfl
def kCall2 (φ : List D → Option T) (e : Env) (ds : List D) : Option (T × Env) := (φ ds).map (kT2 e)
def kCall (φ : List D → Option T) (r : List T × Env) : Option (T × Env) := (allP r.1).bind (kCall2 φ r.2)
theorem eCall_q {φ : List D → Option T} : eCall φ r env = (r env).bind (kCall φ) := id rfl
theorem kCall_q {φ : List D → Option T} : kCall φ (ts, e) = (allP ts).bind (kCall2 φ e) := id rfl
theorem kCall2_q {φ : List D → Option T} : kCall2 φ e ds = (φ ds).map (kT2 e) := id rfl
def kCl (e : Env) (t : T) : Option (T × Env) := if cleanT t then some (t, e) else none
def kCallB (φ : List D → Option T) (r : List T × Env) : Option (T × Env) := (φ (T.toDs r.1)).bind (kCl r.2)
theorem eCallB_q {φ : List D → Option T} : eCallB φ r env = (r env).bind (kCallB φ) := id rfl
theorem kCallB_q {φ : List D → Option T} : kCallB φ (ts, e) = (φ (T.toDs ts)).bind (kCl e) := id rfl
theorem kCl_q : kCl e t = if cleanT t then some (t, e) else none := id rfl
theorem allP_n : allP [] = some [] := id rfl
theorem allP_c : allP (.p d :: ts) = (allP ts).map (List.cons d) := id rfl
-- places
def kIx2 (x : T) : T × Env → Option (T × Env)
  | (.p (.int i), e) => (ixT x i).map (kT2 e)
  | _ => none
def kIx1 (fi : EF) (x : T × Env) : Option (T × Env) := (fi x.2).bind (kIx2 x.1)
theorem eIx_q : eIx fa fb env = (fa env).bind (kIx1 fb) := by
  unfold eIx; congr 1; funext x; unfold kIx1; congr 1; funext y; obtain ⟨y, e⟩ := y; cases y with
  | p d => cases d <;> rfl
  | _ => rfl
theorem kIx1_q : kIx1 fb (t, e) = (fb e).bind (kIx2 t) := id rfl
theorem kIx2_q : kIx2 t (.p (.int z), e) = (ixT t z).map (kT2 e) := id rfl
theorem oN_q : oN env = some (none, env) := id rfl
def koS : T × Env → Option (Option Int × Env)
  | (.p (.int i), e) => some (some i, e)
  | _ => none
theorem oS_q : oS f env = (f env).bind koS := by
  unfold oS; congr 1; funext x; obtain ⟨x, e⟩ := x; cases x with
  | p d => cases d <;> rfl
  | _ => rfl
theorem koS_q : koS (.p (.int z), e) = some (some z, e) := id rfl
def kSl3 (x : T) (l : Option Int) (u : Option Int × Env) : Option (T × Env) := (cutT x l u.1).map (kT2 u.2)
def kSl2 (x : T) (hi : OF) (l : Option Int × Env) : Option (T × Env) := (hi l.2).bind (kSl3 x l.1)
def kSl1 (lo hi : OF) (x : T × Env) : Option (T × Env) := (lo x.2).bind (kSl2 x.1 hi)
theorem eSl_q {lo hi : OF} : eSl fa lo hi env = (fa env).bind (kSl1 lo hi) := id rfl
theorem kSl1_q {lo hi : OF} : kSl1 lo hi (t, e) = (lo e).bind (kSl2 t hi) := id rfl
theorem kSl2_q {hi : OF} {l : Option Int} : kSl2 t hi (l, e) = (hi e).bind (kSl3 t l) := id rfl
theorem kSl3_q {l u : Option Int} : kSl3 t l (u, e) = (cutT t l u).map (kT2 e) := id rfl
theorem cutT_p {l u : Option Int} : cutT (.p (.lst ds)) l u = some (.lst ((cutD ds l u).map T.p)) := id rfl
theorem cutT_l {l u : Option Int} : cutT (.lst (ds.map T.p)) l u = some (.lst ((cutD ds l u).map T.p)) := by
  show (allP (ds.map T.p)).map _ = _
  have : allP (ds.map T.p) = some ds := by
    induction ds with
    | nil => rfl
    | cons d ds ih => simp [allP, ih]
  rw [this]; rfl
theorem cutT_s {l u : Option Int} {s : Str} (h : s.length ≤ 16777216) : cutT (.p (.str s)) l u = some (.p (.str (cutS s l u))) := if_pos h
theorem cutT_t {l u : Option Int} (h : ¬ (HT.sIx ds.length 0 l = 0 ∧ HT.sIx ds.length ds.length u = ds.length)) : cutT (.p (.tup ds)) l u = some (.p (.tup (cutD ds l u))) := if_neg h
-- statements
theorem sNx_q : sNx env = some (.nx, env) := id rfl
theorem sBk_q : sBk env = some (.bk, env) := id rfl
theorem sCt_q : sCt env = some (.ct, env) := id rfl
theorem sRetN_q : sRetN env = some (.rt (.p .non), env) := id rfl
def kSeq (F2 : SF) (r : Fl × Env) : Option (Fl × Env) := match r.1 with
  | .nx => F2 r.2
  | .rt t => some (.rt t, r.2)
  | .bk => some (.bk, r.2)
  | .ct => some (.ct, r.2)
theorem sSeq_q : sSeq F1 F2 env = (F1 env).bind (kSeq F2) := id rfl
theorem kSeq_n : kSeq F (.nx, e) = F e := id rfl
theorem kSeq_r : kSeq F (.rt t, e) = some (.rt t, e) := id rfl
theorem kSeq_b : kSeq F (.bk, e) = some (.bk, e) := id rfl
theorem kSeq_c : kSeq F (.ct, e) = some (.ct, e) := id rfl
def kRet (r : T × Env) : Fl × Env := (.rt r.1, r.2)
theorem sRet_q : sRet f env = (f env).map kRet := id rfl
theorem kRet_q : kRet (t, e) = (.rt t, e) := id rfl
def kSet (i : Nat) (r : T × Env) : Option (Fl × Env) := if i < r.2.length then some (.nx, r.2.set i (some r.1)) else none
theorem sSet_q : sSet i f env = (f env).bind (kSet i) := id rfl
theorem kSet_q : kSet i (t, e) = if i < e.length then some (.nx, e.set i (some t)) else none := id rfl
def kDrop (r : T × Env) : Fl × Env := (.nx, r.2)
theorem sDrop_q : sDrop f env = (f env).map kDrop := id rfl
theorem kDrop_q : kDrop (t, e) = (.nx, e) := id rfl
theorem gNm_q : gNm i t env = if i < env.length then some (env.set i (some t)) else none := id rfl
theorem gEnd_q : gEnd [] env = some env := id rfl
theorem gAnd_q : gAnd G gs (t :: ts) env = (G t env).bind (gs ts) := id rfl
def kTp (n : Nat) (g : GsF) (env : Env) (us : List T) : Option Env := if us.length = n then g us env else none
theorem gTp_q : gTp n gs t env = (partsT t).bind (kTp n gs env) := id rfl
theorem kTp_q : kTp n gs env ts = if ts.length = n then gs ts env else none := id rfl
theorem partsT_p : partsT (.p (.tup ds)) = some (ds.map T.p) := id rfl
theorem partsT_t : partsT (.tup ts) = some ts := id rfl
def kNx (e : Env) : Fl × Env := (.nx, e)
theorem kNx_q : kNx e = (.nx, e) := id rfl
def kAsg (G : GF) (r : T × Env) : Option (Fl × Env) := (G r.1 r.2).map kNx
theorem sAsg_q : sAsg f G env = (f env).bind (kAsg G) := id rfl
theorem kAsg_q : kAsg G (t, e) = (G t e).map kNx := id rfl
-- walks
def kFor (G : GF) (body : SF) (r : List D × Env) : Option (Fl × Env) := loopD G body r.1 r.2
theorem sFor_q {fi : IF} : sFor fi G F env = (fi env).bind (kFor G F) := id rfl
theorem kFor_q : kFor G F (ds, e) = loopD G F ds e := id rfl
def kLp2 (G : GF) (body : SF) (ds : List D) (r : Fl × Env) : Option (Fl × Env) := match r.1 with
  | .nx => loopD G body ds r.2
  | .ct => loopD G body ds r.2
  | .bk => some (.nx, r.2)
  | .rt t => some (.rt t, r.2)
def kLp1 (G : GF) (body : SF) (ds : List D) (e : Env) : Option (Fl × Env) := (body e).bind (kLp2 G body ds)
theorem loop_n : loopD G F [] env = some (.nx, env) := id rfl
theorem loop_c : loopD G F (d :: ds) env = (G (.p d) env).bind (kLp1 G F ds) := id rfl
theorem kLp1_q : kLp1 G F ds e = (F e).bind (kLp2 G F ds) := id rfl
theorem kLp2_n : kLp2 G F ds (.nx, e) = loopD G F ds e := id rfl
theorem kLp2_c : kLp2 G F ds (.ct, e) = loopD G F ds e := id rfl
theorem kLp2_b : kLp2 G F ds (.bk, e) = some (.nx, e) := id rfl
theorem kLp2_r : kLp2 G F ds (.rt t, e) = some (.rt t, e) := id rfl
def kiL (r : T × Env) : Option (List D × Env) := match r.1 with | .p (.lst ds) => some (ds, r.2) | _ => none
theorem iL_q : iL f env = (f env).bind kiL := id rfl
theorem kiL_q : kiL (.p (.lst ds), e) = some (ds, e) := id rfl
def kiTp (r : T × Env) : Option (List D × Env) := match r.1 with | .p (.tup ds) => some (ds, r.2) | _ => none
theorem iTp_q : iTp f env = (f env).bind kiTp := id rfl
theorem kiTp_q : kiTp (.p (.tup ds), e) = some (ds, e) := id rfl
def kiSg (r : T × Env) : Option (List D × Env) := match r.1 with
  | .p (.str z) => some (signsD z, r.2)
  | _ => none
theorem iSg_q : iSg f env = (f env).bind kiSg := id rfl
theorem kiSg_q {s : Str} : kiSg (.p (.str s), e) = some (signsD s, e) := id rfl
def kR1 (r : List T × Env) : Option (List D × Env) := match r.1 with
  | [.p (.int j)] => if j < 4611686018427387904 ∧ -4611686018427387904 ≤ j then some (rngD 0 j.toNat, r.2) else none
  | _ => none
theorem iR1_q : iR1 r env = (r env).bind kR1 := id rfl
theorem kR1_q (h1 : -4611686018427387904 ≤ z) (h2 : z < 4611686018427387904) : kR1 ([.p (.int z)], e) = some (rngD 0 z.toNat, e) := if_pos ⟨h2, h1⟩
def kR2 (r : List T × Env) : Option (List D × Env) := match r.1 with
  | [.p (.int i), .p (.int j)] => if (i < 4611686018427387904 ∧ -4611686018427387904 ≤ i) ∧ (j < 4611686018427387904 ∧ -4611686018427387904 ≤ j) then some (rngD i (j - i).toNat, r.2) else none
  | _ => none
theorem iR2_q : iR2 r env = (r env).bind kR2 := id rfl
theorem kR2_q (h1 : -4611686018427387904 ≤ z) (h2 : z < 4611686018427387904) (h3 : -4611686018427387904 ≤ w) (h4 : w < 4611686018427387904) : kR2 ([.p (.int z), .p (.int w)], e) = some (rngD z (w - z).toNat, e) := if_pos ⟨⟨h2, h1⟩, h4, h3⟩
def kEn (r : List T × Env) : Option (List D × Env) := match r.1 with
  | [.p (.lst ds)] => some (enumD 0 ds, r.2)
  | _ => none
theorem iEn_q : iEn r env = (r env).bind kEn := id rfl
theorem kEn_q : kEn ([.p (.lst ds)], e) = some (enumD 0 ds, e) := id rfl
def kZp (r : List T × Env) : Option (List D × Env) := match r.1 with
  | [.p (.lst ds), .p (.lst es)] => some (zipD ds es, r.2)
  | [.p (.tup ds), .p (.tup es)] => some (zipD ds es, r.2)
  | _ => none
theorem iZp_q : iZp r env = (r env).bind kZp := id rfl
theorem kZp_q : kZp ([.p (.lst ds), .p (.lst es)], e) = some (zipD ds es, e) := id rfl
theorem kZp_t : kZp ([.p (.tup ds), .p (.tup es)], e) = some (zipD ds es, e) := id rfl
def kForV2 (us : List T) (i : Nat) (r : Fl × Env) : Fl × Env := (r.1, match r.1 with
  | .rt _ => r.2
  | _ => r.2.set i (some (.lst us)))
def kForV1 (i : Nat) (G : GF) (body : SF) (env : Env) (us : List T) (ds : List D) : Option (Fl × Env) := (loopD G body ds (env.set i none)).map (kForV2 us i)
def kForV (i : Nat) (G : GF) (body : SF) (env : Env) (us : List T) : Option (Fl × Env) := (allP us).bind (kForV1 i G body env us)
theorem sForV_q : sForV i G F env = (atL env i).bind (kForV i G F env) := id rfl
theorem kForV_q : kForV i G F env us = (allP us).bind (kForV1 i G F env us) := id rfl
theorem kForV1_q : kForV1 i G F env us ds = (loopD G F ds (env.set i none)).map (kForV2 us i) := id rfl
theorem kForV2_n : kForV2 us i (.nx, e) = (.nx, e.set i (some (.lst us))) := id rfl
theorem kForV2_r : kForV2 us i (.rt t, e) = (.rt t, e) := id rfl
-- lists in place
def kAtL : Option (Option T) → Option (List T)
  | some (some (.lst us)) => some us
  | _ => none
theorem atL_q : atL env i = kAtL env[i]? := id rfl
theorem kAtL_q : kAtL (some (some (.lst us))) = some us := id rfl
def kApp2 (i : Nat) (t : T) (e : Env) (us : List T) : Option (Fl × Env) := if us.length < 16000000 then some (.nx, e.set i (some (.lst (us ++ [t])))) else none
def kApp1 (i : Nat) (r : T × Env) : Option (Fl × Env) := (atL r.2 i).bind (kApp2 i r.1 r.2)
def kApp (i : Nat) (f : EF) (env : Env) (_ : List T) : Option (Fl × Env) := (f env).bind (kApp1 i)
theorem sApp_q : sApp i f env = (atL env i).bind (kApp i f env) := by
  unfold sApp atL
  split
  · rename_i h
    show _ = (f env).bind (kApp1 i)
    congr 1; funext r; unfold kApp1 atL
    split <;> rfl
  · rfl
theorem kApp_q : kApp i f env us = (f env).bind (kApp1 i) := id rfl
theorem kApp1_q : kApp1 i (t, e) = (atL e i).bind (kApp2 i t e) := id rfl
theorem kApp2_q : kApp2 i t e us = if us.length < 16000000 then some (.nx, e.set i (some (.lst (us ++ [t])))) else none := id rfl
def kPutEnd (i : Nat) (t : T) (e : Env) (us : List T) (k : Nat) : Fl × Env := (.nx, e.set i (some (.lst (us.set k t))))
def kPut4 (i : Nat) (t : T) (e : Env) (j : Int) (us : List T) : Option (Fl × Env) := (ixN us.length j).map (kPutEnd i t e us)
def kPut3 (i : Nat) (t : T) (e : Env) (j : Int) : Option (Fl × Env) := (atL e i).bind (kPut4 i t e j)
def kPut2 (i : Nat) (t : T) (s : T × Env) : Option (Fl × Env) := (asI s.1).bind (kPut3 i t s.2)
def kPut1 (i : Nat) (fj : EF) (r : T × Env) (_ : List T) : Option (Fl × Env) := (fj r.2).bind (kPut2 i r.1)
def kPut (i : Nat) (fj : EF) (r : T × Env) : Option (Fl × Env) := (atL r.2 i).bind (kPut1 i fj r)
theorem sPut_q : sPut i fa f env = (f env).bind (kPut i fa) := id rfl
theorem kPut_q : kPut i fa (t, e) = (atL e i).bind (kPut1 i fa (t, e)) := id rfl
theorem kPut1_q : kPut1 i fa (t, e) us = (fa e).bind (kPut2 i t) := id rfl
theorem kPut2_q : kPut2 i t (u, e) = (asI u).bind (kPut3 i t e) := id rfl
theorem kPut3_q : kPut3 i t e z = (atL e i).bind (kPut4 i t e z) := id rfl
theorem kPut4_q : kPut4 i t e z us = (ixN us.length z).map (kPutEnd i t e us) := id rfl
theorem kPutEnd_q : kPutEnd i t e us k = (.nx, e.set i (some (.lst (us.set k t)))) := id rfl
theorem asI_q : asI (.p (.int z)) = some z := id rfl
def kAx8 (i : Nat) (h : Int → Int → Int) (x y : Int) (e : Env) (us : List T) (k : Nat) : Fl × Env := (.nx, e.set i (some (.lst (us.set k (.p (.int (h x y)))))))
def kAx7 (i : Nat) (h : Int → Int → Int) (j x y : Int) (e : Env) (us : List T) : Option (Fl × Env) := (ixN us.length j).map (kAx8 i h x y e us)
def kAx6 (i : Nat) (h : Int → Int → Int) (j x : Int) (e : Env) (y : Int) : Option (Fl × Env) := (atL e i).bind (kAx7 i h j x y e)
def kAx5 (i : Nat) (h : Int → Int → Int) (j x : Int) (r : T × Env) : Option (Fl × Env) := (asI r.1).bind (kAx6 i h j x r.2)
def kAx4 (i : Nat) (h : Int → Int → Int) (f : EF) (j : Int) (e : Env) (x : Int) : Option (Fl × Env) := (f e).bind (kAx5 i h j x)
def kAx3 (i : Nat) (h : Int → Int → Int) (f : EF) (j : Int) (e : Env) (t : T) : Option (Fl × Env) := (asI t).bind (kAx4 i h f j e)
def kAx2 (i : Nat) (h : Int → Int → Int) (f : EF) (j : Int) (e : Env) (us : List T) : Option (Fl × Env) := (atI us j).bind (kAx3 i h f j e)
def kAx1 (i : Nat) (h : Int → Int → Int) (f : EF) (e : Env) (j : Int) : Option (Fl × Env) := if 0 ≤ j then (atL e i).bind (kAx2 i h f j e) else none
def kAx0 (i : Nat) (h : Int → Int → Int) (f : EF) (s : T × Env) : Option (Fl × Env) := (asI s.1).bind (kAx1 i h f s.2)
def kAx (i : Nat) (h : Int → Int → Int) (fj f : EF) (env : Env) (_ : List T) : Option (Fl × Env) := (fj env).bind (kAx0 i h f)
variable {h : Int → Int → Int} {x y : Int}
theorem sAugIx_q : sAugIx i h fa f env = (atL env i).bind (kAx i h fa f env) := id rfl
theorem kAx_q : kAx i h fa f env us = (fa env).bind (kAx0 i h f) := id rfl
theorem kAx0_q : kAx0 i h f (t, e) = (asI t).bind (kAx1 i h f e) := id rfl
theorem kAx1_q (hz : 0 ≤ z) : kAx1 i h f e z = (atL e i).bind (kAx2 i h f z e) := if_pos hz
theorem kAx2_q : kAx2 i h f z e us = (atI us z).bind (kAx3 i h f z e) := id rfl
theorem kAx3_q : kAx3 i h f z e t = (asI t).bind (kAx4 i h f z e) := id rfl
theorem kAx4_q : kAx4 i h f z e x = (f e).bind (kAx5 i h z x) := id rfl
theorem kAx5_q : kAx5 i h z x (t, e) = (asI t).bind (kAx6 i h z x e) := id rfl
theorem kAx6_q : kAx6 i h z x e y = (atL e i).bind (kAx7 i h z x y e) := id rfl
theorem kAx7_q : kAx7 i h z x y e us = (ixN us.length z).map (kAx8 i h x y e us) := id rfl
theorem kAx8_q : kAx8 i h x y e us k = (.nx, e.set i (some (.lst (us.set k (.p (.int (h x y))))))) := id rfl
def kAug3 (i : Nat) (e : Env) (d : D) : Option (Fl × Env) := if i < e.length then some (.nx, e.set i (some (.p d))) else none
def kAug2 (i : Nat) (g : D → D → Option D) (a : D) : T × Env → Option (Fl × Env)
  | (.p b, e) => (g a b).bind (kAug3 i e)
  | _ => none
def kAug (i : Nat) (g : D → D → Option D) (f : EF) (env : Env) : Option (Option T) → Option (Fl × Env)
  | some (some (.p a)) => (f env).bind (kAug2 i g a)
  | _ => none
theorem sAug_q {g : D → D → Option D} : sAug i g f env = kAug i g f env env[i]? := by
  unfold sAug
  generalize env[i]? = o
  cases o with
  | none => rfl
  | some o => cases o with
    | none => rfl
    | some t => cases t with
      | p a =>
        show (f env).bind _ = (f env).bind _
        congr 1; funext r; obtain ⟨r, e⟩ := r; cases r <;> rfl
      | _ => rfl
theorem kAug_q {g : D → D → Option D} : kAug i g f env (some (some (.p a))) = (f env).bind (kAug2 i g a) := id rfl
theorem kAug2_q {g : D → D → Option D} : kAug2 i g a (.p b, e) = (g a b).bind (kAug3 i e) := id rfl
theorem kAug3_q : kAug3 i e d = if i < e.length then some (.nx, e.set i (some (.p d))) else none := id rfl
-- comprehensions
def kCp4 (t : T) (z : List T × Env) : List T × Env := (t :: z.1, z.2)
def kCp3 (own : List Nat) (G : GF) (test : CF) (elt : EF) (ds : List D) (s : T × Env) : Option (List T × Env) := (compD own G test elt ds (wipeE s.2 own)).map (kCp4 s.1)
def kCp2 (own : List Nat) (G : GF) (test : CF) (elt : EF) (ds : List D) (r : Bool × Env) : Option (List T × Env) := if r.1 then (elt r.2).bind (kCp3 own G test elt ds) else compD own G test elt ds (wipeE r.2 own)
def kCp1 (own : List Nat) (G : GF) (test : CF) (elt : EF) (ds : List D) (e1 : Env) : Option (List T × Env) := (test e1).bind (kCp2 own G test elt ds)
variable {own : List Nat}
theorem comp_n : compD own G c f [] env = some ([], env) := id rfl
theorem comp_c : compD own G c f (d :: ds) env = (G (.p d) env).bind (kCp1 own G c f ds) := id rfl
theorem kCp1_q : kCp1 own G c f ds e = (c e).bind (kCp2 own G c f ds) := id rfl
theorem kCp2_t : kCp2 own G c f ds (true, e) = (f e).bind (kCp3 own G c f ds) := id rfl
theorem kCp2_f : kCp2 own G c f ds (false, e) = compD own G c f ds (wipeE e own) := id rfl
theorem kCp3_q : kCp3 own G c f ds (t, e) = (compD own G c f ds (wipeE e own)).map (kCp4 t) := id rfl
theorem kCp4_q : kCp4 t (ts, e) = (t :: ts, e) := id rfl
def kLs (z : List T × Env) : T × Env := (.lst z.1, z.2)
def kComp (own : List Nat) (G : GF) (test : CF) (elt : EF) (r : List D × Env) : Option (T × Env) := if r.1.length ≤ 1000000 then (compD own G test elt r.1 (wipeE r.2 own)).map kLs else none
theorem eComp_q {fi : IF} : eComp own fi G c f env = (fi env).bind (kComp own G c f) := id rfl
theorem kComp_q : kComp own G c f (ds, e) = if ds.length ≤ 1000000 then (compD own G c f ds (wipeE e own)).map kLs else none := id rfl
theorem kLs_q : kLs (ts, e) = (.lst ts, e) := id rfl
theorem cYes_q : cYes env = some (true, env) := id rfl
theorem wipe_n : wipeE env [] = env := id rfl
theorem wipe_c {v : Nat} {vs : List Nat} : wipeE env (v :: vs) = (wipeE env vs).set v none := id rfl
-- texts
def kM12 (g : Str → Str → Option D) (x : T) : T × Env → Option (T × Env)
  | (.p (.str b), e) => match x with | .p (.str a) => (g a b).map (kP e) | _ => none
  | _ => none
def kM11 (g : Str → Str → Option D) (fe : EF) (x : T × Env) : Option (T × Env) := (fe x.2).bind (kM12 g x.1)
theorem eM1_q {g : Str → Str → Option D} : eM1 g fa fb env = (fa env).bind (kM11 g fb) := by
  unfold eM1; congr 1; funext x; unfold kM11; congr 1; funext y; obtain ⟨y, e⟩ := y; obtain ⟨x, e'⟩ := x
  cases y with
  | p d2 => cases d2 with
    | str s2 => cases x with
      | p d => cases d <;> rfl
      | _ => rfl
    | _ => cases x with
      | p d => cases d <;> rfl
      | _ => rfl
  | _ => cases x with
    | p d => cases d <;> rfl
    | _ => rfl
theorem kM11_q {g : Str → Str → Option D} : kM11 g fb (t, e) = (fb e).bind (kM12 g t) := id rfl
theorem kM12_q {g : Str → Str → Option D} {s s' : Str} : kM12 g (.p (.str s)) (.p (.str s'), e) = (g s s').map (kP e) := id rfl
def kSp2 (x : T) (y : T × Env) : Option (T × Env) := match x, y.1 with
  | .p (.str a), .p (.str b) => if (b.length == 0) = false ∧ a.length + 2 ≤ 16777216 then some (.lst (((Txt.split a b).map D.str).map T.p), y.2) else none
  | _, _ => none
def kSp1 (fe : EF) (x : T × Env) : Option (T × Env) := (fe x.2).bind (kSp2 x.1)
theorem eSplit_q : eSplit fa fb env = (fa env).bind (kSp1 fb) := id rfl
theorem kSp1_q : kSp1 fb (t, e) = (fb e).bind (kSp2 t) := id rfl
theorem kSp2_q {s s' : Str} : kSp2 (.p (.str s)) (.p (.str s'), e) = if (s'.length == 0) = false ∧ s.length + 2 ≤ 16777216 then some (.lst (((Txt.split s s').map D.str).map T.p), e) else none := id rfl
def kJn4 (a : Str) (e : Env) (ys : List Str) : Option (T × Env) := if (ys.map (·.length)).sum + ys.length * a.length ≤ 16777216 then some (.p (.str (Txt.join a ys)), e) else none
def kJn3 (a : Str) (e : Env) (ds : List D) : Option (T × Env) := (strsD ds).bind (kJn4 a e)
def kJn2 (x : T) (y : T × Env) : Option (T × Env) := match x with
  | .p (.str a) => (itemsT y.1).bind (kJn3 a y.2)
  | _ => none
def kJn1 (fe : EF) (x : T × Env) : Option (T × Env) := (fe x.2).bind (kJn2 x.1)
theorem eJoin_q : eJoin fa fb env = (fa env).bind (kJn1 fb) := id rfl
theorem kJn1_q : kJn1 fb (t, e) = (fb e).bind (kJn2 t) := id rfl
theorem kJn2_q {s : Str} : kJn2 (.p (.str s)) (t, e) = (itemsT t).bind (kJn3 s e) := id rfl
theorem kJn3_q {s : Str} : kJn3 s e ds = (strsD ds).bind (kJn4 s e) := id rfl
theorem kJn4_q {s : Str} {ys : List Str} : kJn4 s e ys = if (ys.map (·.length)).sum + ys.length * s.length ≤ 16777216 then some (.p (.str (Txt.join s ys)), e) else none := id rfl
def kCt3 (x y : T) (e : Env) (ds es : List D) : Option (T × Env) := if isLT x = true ∧ isLT y = true ∧ ds.length + es.length ≤ 16777216 then some (.lst ((ds ++ es).map T.p), e) else none
def kCt2 (x y : T) (e : Env) (ds : List D) : Option (T × Env) := (itemsT y).bind (kCt3 x y e ds)
def kCt1 (x : T) (y : T × Env) : Option (T × Env) := (itemsT x).bind (kCt2 x y.1 y.2)
def kCt0 (fb : EF) (x : T × Env) : Option (T × Env) := (fb x.2).bind (kCt1 x.1)
theorem eCat_q : eCat fa fb env = (fa env).bind (kCt0 fb) := id rfl
theorem kCt0_q : kCt0 fb (t, e) = (fb e).bind (kCt1 t) := id rfl
theorem kCt1_q : kCt1 t (u, e) = (itemsT t).bind (kCt2 t u e) := id rfl
theorem kCt2_q : kCt2 t u e ds = (itemsT u).bind (kCt3 t u e ds) := id rfl
theorem kCt3_q (h1 : isLT t = true) (h2 : isLT u = true) (h3 : ds.length + es.length ≤ 16777216) : kCt3 t u e ds es = some (.lst ((ds ++ es).map T.p), e) := if_pos ⟨h1, h2, h3⟩
theorem kCt3_pl {as : List D} (h3 : ds.length + es.length ≤ 16777216) : kCt3 (.p (.lst as)) (.lst us) e ds es = some (.lst ((ds ++ es).map T.p), e) := if_pos ⟨id rfl, id rfl, h3⟩
theorem kCt3_ll {ws : List T} (h3 : ds.length + es.length ≤ 16777216) : kCt3 (.lst ws) (.lst us) e ds es = some (.lst ((ds ++ es).map T.p), e) := if_pos ⟨id rfl, id rfl, h3⟩
theorem kCt3_lp {as : List D} (h3 : ds.length + es.length ≤ 16777216) : kCt3 (.lst us) (.p (.lst as)) e ds es = some (.lst ((ds ++ es).map T.p), e) := if_pos ⟨id rfl, id rfl, h3⟩
theorem kCt3_pp {as bs : List D} (h3 : ds.length + es.length ≤ 16777216) : kCt3 (.p (.lst as)) (.p (.lst bs)) e ds es = some (.lst ((ds ++ es).map T.p), e) := if_pos ⟨id rfl, id rfl, h3⟩
theorem itemsT_p : itemsT (.p (.lst ds)) = some ds := id rfl
theorem itemsT_t : itemsT (.p (.tup ds)) = some ds := id rfl
theorem itemsT_ll : itemsT (.lst ts) = allP ts := id rfl
theorem isLT_p : isLT (.p (.lst ds)) = true := id rfl
theorem isLT_l : isLT (.lst ts) = true := id rfl
-- dicts
variable {kd : List (Key × D)} {ky : Key} {st : Str}
theorem eDn_q : eDn env = some (.dic (pairsT []), env) := id rfl
def kDx4 (ds : List (Key × D)) (e : Env) (k : Key) : Option (T × Env) := (valD ds k).map (kP e)
def kDx3 (u : T) (e : Env) (ds : List (Key × D)) : Option (T × Env) := (keyT u).bind (kDx4 ds e)
def kDx2 (t : T) (s : T × Env) : Option (T × Env) := (dicT t).bind (kDx3 s.1 s.2)
def kDx1 (fi : EF) (r : T × Env) : Option (T × Env) := (fi r.2).bind (kDx2 r.1)
theorem eDix_q : eDix fa fb env = (fa env).bind (kDx1 fb) := id rfl
theorem kDx1_q : kDx1 fb (t, e) = (fb e).bind (kDx2 t) := id rfl
theorem kDx2_q : kDx2 t (u, e) = (dicT t).bind (kDx3 u e) := id rfl
theorem kDx3_q : kDx3 u e kd = (keyT u).bind (kDx4 kd e) := id rfl
theorem kDx4_q : kDx4 kd e ky = (valD kd ky).map (kP e) := id rfl
def kDg5 (u : T) (e : Env) (ds : List (Key × D)) (k : Key) : Option (T × Env) := match u with
  | .p z => some (.p ((valD ds k).getD z), e)
  | _ => none
def kDg4 (s u : T) (e : Env) (ds : List (Key × D)) : Option (T × Env) := (keyT s).bind (kDg5 u e ds)
def kDg3 (t s : T) (u : T × Env) : Option (T × Env) := (dicT t).bind (kDg4 s u.1 u.2)
def kDg2 (t : T) (fx : EF) (s : T × Env) : Option (T × Env) := (fx s.2).bind (kDg3 t s.1)
def kDg1 (fi fx : EF) (r : T × Env) : Option (T × Env) := (fi r.2).bind (kDg2 r.1 fx)
theorem eDget_q : eDget fa fb fc env = (fa env).bind (kDg1 fb fc) := id rfl
theorem kDg1_q : kDg1 fb fc (t, e) = (fb e).bind (kDg2 t fc) := id rfl
theorem kDg2_q : kDg2 t fc (u, e) = (fc e).bind (kDg3 t u) := id rfl
theorem kDg3_q {x : T} : kDg3 t u (x, e) = (dicT t).bind (kDg4 u x e) := id rfl
theorem kDg4_q {x : T} : kDg4 u x e kd = (keyT u).bind (kDg5 x e kd) := id rfl
theorem kDg5_q : kDg5 (.p d) e kd ky = some (.p ((valD kd ky).getD d), e) := id rfl
def kDi4 (b : Bool) (e : Env) (ds : List (Key × D)) (k : Key) : Option (T × Env) := some (.p (.bl (if b then (valD ds k).isSome else !(valD ds k).isSome)), e)
def kDi3 (b : Bool) (s : T) (e : Env) (ds : List (Key × D)) : Option (T × Env) := (keyT s).bind (kDi4 b e ds)
def kDi2 (b : Bool) (s : T) (r : T × Env) : Option (T × Env) := (dicT r.1).bind (kDi3 b s r.2)
def kDi1 (b : Bool) (fo : EF) (s : T × Env) : Option (T × Env) := (fo s.2).bind (kDi2 b s.1)
theorem eDin_q {b : Bool} : eDin b fa fb env = (fa env).bind (kDi1 b fb) := id rfl
theorem kDi1_q {b : Bool} : kDi1 b fb (t, e) = (fb e).bind (kDi2 b t) := id rfl
theorem kDi2_q {b : Bool} : kDi2 b t (u, e) = (dicT u).bind (kDi3 b t e) := id rfl
theorem kDi3_q {b : Bool} : kDi3 b t e kd = (keyT t).bind (kDi4 b e kd) := id rfl
theorem kDi4_t : kDi4 true e kd ky = some (.p (.bl (valD kd ky).isSome), e) := id rfl
theorem kDi4_f : kDi4 false e kd ky = some (.p (.bl (!(valD kd ky).isSome)), e) := id rfl
def kPd5 (i : Nat) (t : T) (e : Env) (k : Key) (kvs : List (Key × D)) : Option (Fl × Env) := match t with
  | .p d => if kvs.length < 16000000 then some (.nx, e.set i (some (.dic (pairsT (putD kvs k d))))) else none
  | _ => none
def kPd4 (i : Nat) (t : T) (e : Env) (k : Key) : Option (Fl × Env) := (atD e i).bind (kPd5 i t e k)
def kPd3 (i : Nat) (t : T) (s : T × Env) : Option (Fl × Env) := (keyT s.1).bind (kPd4 i t s.2)
def kPd2 (i : Nat) (fk : EF) (t : T) (e : Env) (_ : List (Key × D)) : Option (Fl × Env) := (fk e).bind (kPd3 i t)
def kPd1 (i : Nat) (fk : EF) (r : T × Env) : Option (Fl × Env) := (atD r.2 i).bind (kPd2 i fk r.1 r.2)
theorem sPutD_q : sPutD i fa f env = (f env).bind (kPd1 i fa) := id rfl
theorem kPd1_q : kPd1 i fa (t, e) = (atD e i).bind (kPd2 i fa t e) := id rfl
theorem kPd2_q : kPd2 i fa t e kd = (fa e).bind (kPd3 i t) := id rfl
theorem kPd3_q : kPd3 i t (u, e) = (keyT u).bind (kPd4 i t e) := id rfl
theorem kPd4_q : kPd4 i t e ky = (atD e i).bind (kPd5 i t e ky) := id rfl
theorem kPd5_q : kPd5 i (.p d) e ky kd = if kd.length < 16000000 then some (.nx, e.set i (some (.dic (pairsT (putD kd ky d))))) else none := id rfl
def kAtD : Option (Option T) → Option (List (Key × D))
  | some (some (.dic kvs)) => frzK kvs
  | _ => none
theorem atD_q : atD env i = kAtD env[i]? := id rfl
theorem kAtD_q : kAtD (some (some (.dic (pairsT kd)))) = some kd := frzK_pairs kd
theorem dicT_p : dicT (.p (.dic kd)) = some kd := id rfl
theorem dicT_o : dicT (.dic (pairsT kd)) = some kd := frzK_pairs kd
theorem keyT_i : keyT (.p (.int z)) = some (.inl z) := id rfl
theorem keyT_s : keyT (.p (.str st)) = some (.inr st) := id rfl
theorem toD_d : ∀ kd : List (Key × D), (T.dic (pairsT kd)).toD = .dic kd := fun kd => by
  have h : ∀ kd : List (Key × D), T.toKs (pairsT kd) = kd := fun kd => by
    induction kd with
    | nil => rfl
    | cons x r ih => obtain ⟨k, d⟩ := x; show (k, (T.p d).toD) :: T.toKs (pairsT r) = _; rw [ih]; rfl
  show D.dic (T.toKs (pairsT kd)) = _
  rw [h]
theorem kV_d : kV env i (some (some (.dic (pairsT kd)))) = some (.p (.dic kd), env.set i (some (.p (.dic kd)))) := by
  show some (T.p (T.dic (pairsT kd)).toD, env.set i (some (.p (T.dic (pairsT kd)).toD))) = _
  rw [toD_d]
-- a walk that hands its items on
def kForM (G : GF) (body : SF) (r : T × Env) : Option (Fl × Env) := match r.1 with
  | .lst us => loopT G body us r.2
  | _ => none
theorem sForM_q : sForM f G F env = (f env).bind (kForM G F) := id rfl
theorem kForM_q : kForM G F (.lst ts, e) = loopT G F ts e := id rfl
def kLt2 (G : GF) (body : SF) (ts : List T) (r : Fl × Env) : Option (Fl × Env) := match r.1 with
  | .nx => loopT G body ts r.2
  | .ct => loopT G body ts r.2
  | .bk => some (.nx, r.2)
  | .rt t => some (.rt t, r.2)
def kLt1 (G : GF) (body : SF) (ts : List T) (e : Env) : Option (Fl × Env) := (body e).bind (kLt2 G body ts)
theorem loopT_n : loopT G F [] env = some (.nx, env) := id rfl
theorem loopT_c : loopT G F (t :: ts) env = (G t env).bind (kLt1 G F ts) := id rfl
theorem kLt1_q : kLt1 G F ts e = (F e).bind (kLt2 G F ts) := id rfl
theorem kLt2_n : kLt2 G F ts (.nx, e) = loopT G F ts e := id rfl
theorem kLt2_r : kLt2 G F ts (.rt t, e) = some (.rt t, e) := id rfl
def kM0 (g : Str → Option D) (x : T × Env) : Option (T × Env) := match x.1 with
  | .p (.str a) => (g a).map (kP x.2)
  | _ => none
theorem eM0_q {g : Str → Option D} : eM0 g f env = (f env).bind (kM0 g) := id rfl
theorem kM0_q {g : Str → Option D} : kM0 g (.p (.str st), e) = (g st).map (kP e) := id rfl
def kR3 (r : List T × Env) : Option (List D × Env) := match r.1 with
  | [.p (.int i), .p (.int j), .p (.int c)] => if c ≠ 0 ∧ c.natAbs < 1073741824 ∧ Builtin.Range.small i j c = true ∧ Builtin.Range.rangeSize i j c = ((Builtin.Range.rangeSize i j c).toNat : Int) then some (rng3D i c (Builtin.Range.rangeSize i j c).toNat, r.2) else none
  | _ => none
theorem iR3_q : iR3 r env = (r env).bind kR3 := id rfl
-- a def
def kRun (r : Fl × Env) : Option T := match r.1 with
  | .rt t => some t
  | .nx => some (.p .non)
  | _ => none
theorem runF_q : runF n k F ds = if ds.length = k then (F (startE n ds)).bind kRun else none := id rfl
theorem kRun_r : kRun (.rt t, e) = some t := id rfl
theorem kRun_n : kRun (.nx, e) = some (.p .non) := id rfl
end DL

set_option Elab.async false
set_option linter.all false
set_option maxRecDepth 100000
/-! More of what the functions on data give: texts by their signs, == of like data, places. -/
namespace DL
open PySem PySem.Spec PyProof.Rows L2
abbrev sg (l : List Nat) : Str := ⟨l.toArray⟩
theorem sg_len (l : List Nat) : (sg l).length = l.length := by rw [TL.len_tl]
theorem sg_app (a b : List Nat) : sg a ++ sg b = sg (a ++ b) := TL.ext_tl (TL.tl_append (sg a) (sg b))
theorem sg_inj {a b : List Nat} : sg a = sg b ↔ a = b := ⟨fun h => congrArg TL.tl h, fun h => by rw [h]⟩
theorem sg_eta (s : Str) : sg s.cps.toList = s := TL.ext_tl rfl
def cod (s : String) : List Nat := s.toList.map Char.toNat
theorem ofS (s : String) : PySem.Str.ofString s = sg (cod s) := TL.ext_tl (TL.tl_ofString s)
theorem sg_ok (l : List Nat) : PyData.strOk (sg l) = l.all (fun c => decide (c < 1114112)) := by
  show (l.toArray).all _ = _
  rw [List.all_toArray]
theorem gAdd_g {a b : List Nat} (h : a.length + b.length ≤ 16777216) : gAdd (.str (sg a)) (.str (sg b)) = some (.str (sg (a ++ b))) := by
  rw [gAdd_s (by rw [sg_len, sg_len]; exact h), sg_app]
theorem ixT_sg {l : List Nat} {i : Int} (h : l.length ≤ 16777216) : ixT (.p (.str (sg l))) i = (atI l i).map fun c => .p (.str (sg [c])) := if_pos (by rw [sg_len]; exact h)
theorem eqQ_g {a b : List Nat} : eqQ (.str (sg a)) (.str (sg b)) = some (decide (a = b)) := by
  rw [eqQ_s]
  congr 1
  rw [Bool.eq_iff_iff]; simp [sg_inj]
theorem neQ_g {a b : List Nat} : neQ (.str (sg a)) (.str (sg b)) = some (!decide (a = b)) := by unfold neQ; rw [eqQ_g]; rfl
theorem repS_g (a : List Nat) (n : Int) : repS (sg a) n = sg (List.replicate n.toNat a).flatten := rfl
theorem gMulA_g {a : List Nat} {n : Int} (h1 : -1000000000 < n) (h2 : n < 1000000000) (h : a.length * n.toNat ≤ 16777216) : gMulA (.str (sg a)) (.int n) = some (.str (sg (List.replicate n.toNat a).flatten)) := by
  show (if _ then _ else none) = _
  rw [if_pos ⟨h1, h2, by rw [sg_len]; exact h⟩, repS_g]
theorem inStr_g (c : Nat) (l : List Nat) : inStr (sg [c]) (sg l) = decide (c ∈ l) := rfl
theorem inQ_g (c : Nat) (l : List Nat) : inQ (.str (sg [c])) (.str (sg l)) = some (decide (c ∈ l)) := rfl
theorem signsD_g (l : List Nat) : signsD (sg l) = l.map fun c => .str (sg [c]) := rfl
theorem join_g (s : List Nat) (ls : List (List Nat)) : Txt.join (sg s) (ls.map sg) = sg (TL.joinL s ls) := by
  rw [TL.join_eq]
  apply TL.ext_tl
  rw [TL.tl_join, List.map_map]
  show TL.joinL s (ls.map fun l => l) = TL.joinL s ls
  rw [List.map_id']
/-- an int's own text -/
def dg (i : Int) : List Nat := cod (toString i)
theorem toS (i : Int) : ((toString i : String) : Str) = sg (dg i) := ofS _
theorem gStr_i {i : Int} (h1 : -1606938044258990275541962092341162602522202993782792835301376 < i) (h2 : i < 1606938044258990275541962092341162602522202993782792835301376) : gStr (.p (.int i)) = some (.str (sg (dg i))) := by
  show (if _ then some (D.str (toString i)) else none) = _
  rw [if_pos (by omega), toS]
theorem gStr_s {s : Str} : gStr (.p (.str s)) = some (.str s) := rfl
theorem dg_len {i : Int} (h0 : 0 ≤ i) {k : Nat} (hk : 0 < k) (h : i < 10 ^ k) : (dg i).length ≤ k := by
  have := PyProof.Rows.toString_length_le h0 hk h
  rw [ofS, sg_len] at this
  exact this
theorem cod_ok (s : String) : ∀ c ∈ cod s, c < 1114112 := by
  intro c h
  obtain ⟨x, _, rfl⟩ := List.mem_map.mp h
  have hv : x.val.isValidChar := x.valid
  have h0 : x.toNat = x.val.toNat := rfl
  rw [h0]
  rcases hv with h | h <;> (have := h; simp only [UInt32.toNat] at *; omega)
/-! ### == of like data -/
mutual
def dOk : Nat → D → Bool
  | _, .non => true
  | _, .bl _ => true
  | _, .int _ => true
  | _, .str s => PyData.strOk s
  | 0, .lst _ => false
  | n + 1, .lst ds => dOks n ds
  | 0, .tup _ => false
  | n + 1, .tup ds => dOks n ds
  | _, .dic _ => false
  | _, .dit _ => false
  | _, .obj _ _ => false
  | _, .al _ => false
def dOks : Nat → List D → Bool
  | _, [] => true
  | n, d :: ds => dOk n d && dOks n ds
end
mutual
theorem dOk_py : ∀ (n : Nat) (d : D), dOk n d = true → ∃ p, toPy d = some p ∧ p.canLay0 = true ∧ p.depth ≤ n ∧ PyData.eqv p p = true
  | _, .non, _ => ⟨.none, rfl, rfl, Nat.zero_le _, rfl⟩
  | _, .bl b, _ => ⟨.bool b, rfl, rfl, Nat.zero_le _, by simp [PyData.eqv]⟩
  | _, .int b, _ => ⟨.int b, rfl, rfl, Nat.zero_le _, by simp [PyData.eqv]⟩
  | _, .str b, h => ⟨.str b, rfl, by unfold dOk at h; exact h, Nat.zero_le _, by simp [PyData.eqv]⟩
  | 0, .lst _, h => by unfold dOk at h; cases h
  | n + 1, .lst ds, h => by
    unfold dOk at h
    obtain ⟨ps, h1, h2, h3, h4⟩ := dOks_py n ds h
    refine ⟨.list ps, by show (toPys ds).map _ = _; rw [h1]; rfl, h2, ?_, by rw [PyData.eqv]; exact h4⟩
    show PyData.depthAll ps + 1 ≤ n + 1
    omega
  | 0, .tup _, h => by unfold dOk at h; cases h
  | n + 1, .tup ds, h => by
    unfold dOk at h
    obtain ⟨ps, h1, h2, h3, h4⟩ := dOks_py n ds h
    refine ⟨.tuple ps, by show (toPys ds).map _ = _; rw [h1]; rfl, h2, ?_, by rw [PyData.eqv]; exact h4⟩
    show PyData.depthAll ps + 1 ≤ n + 1
    omega
  | _, .dic _, h => by unfold dOk at h; cases h
  | _, .dit _, h => by unfold dOk at h; cases h
  | _, .obj _ _, h => by unfold dOk at h; cases h
  | _, .al _, h => by unfold dOk at h; cases h
theorem dOks_py : ∀ (n : Nat) (ds : List D), dOks n ds = true → ∃ ps, toPys ds = some ps ∧ PyData.canLayAll0 ps = true ∧ PyData.depthAll ps ≤ n ∧ PyData.eqvAll ps ps = true
  | _, [], _ => ⟨[], rfl, rfl, Nat.zero_le _, rfl⟩
  | n, d :: ds, h => by
    unfold dOks at h
    rw [Bool.and_eq_true] at h
    obtain ⟨p, h1, h2, h3, h4⟩ := dOk_py n d h.1
    obtain ⟨ps, k1, k2, k3, k4⟩ := dOks_py n ds h.2
    refine ⟨p :: ps, by show (toPy d).bind _ = _; rw [h1]; show (toPys ds).map _ = _; rw [k1]; rfl, ?_, ?_, ?_⟩
    · show (p.canLay0 && PyData.canLayAll0 ps) = true
      rw [h2, k2]; rfl
    · show max p.depth (PyData.depthAll ps) ≤ n
      omega
    · show (PyData.eqv p p && PyData.eqvAll ps ps) = true
      rw [h4, k4]; rfl
end
theorem eqQ_refl {d : D} (n : Nat) (hn : n ≤ 64) (h : dOk n d = true) : eqQ d d = some true := by
  have deep : eqDeep d d = some true := by
    obtain ⟨p, h1, h2, h3, h4⟩ := dOk_py n d h
    unfold eqDeep
    rw [h1]
    show (if (SeqAt.shaped p && SeqAt.shaped p) = true then some (PyData.eqv p p) else none) = some true
    have hs : SeqAt.shaped p = true := by
      unfold SeqAt.shaped
      rw [h2, decide_eq_true (by omega)]; rfl
    rw [hs, h4]; rfl
  cases d with
  | int i => rw [eqQ_i]; simp
  | str i => rw [eqQ_s]; simp
  | bl i => rw [eqQ_b]; simp
  | non => rfl
  | lst ds => exact deep
  | tup ds => exact deep
  | dic ds => exact deep
  | dit ds => exact deep
  | obj _ ds => exact deep
  | al _ => exact deep
theorem neQ_refl {d : D} (n : Nat) (hn : n ≤ 64) (h : dOk n d = true) : neQ d d = some false := by unfold neQ; rw [eqQ_refl n hn h]; rfl
theorem dOks_all {n : Nat} : ∀ {ds : List D}, (∀ d ∈ ds, dOk n d = true) → dOks n ds = true
  | [], _ => by unfold dOks; rfl
  | d :: ds, h => by unfold dOks; rw [h d (by simp), dOks_all fun x hx => h x (by simp [hx])]; rfl
theorem dOk_lst {n : Nat} {ds : List D} (h : ∀ d ∈ ds, dOk n d = true) : dOk (n + 1) (.lst ds) = true := by unfold dOk; exact dOks_all h
theorem dOk_tup {n : Nat} {ds : List D} (h : ∀ d ∈ ds, dOk n d = true) : dOk (n + 1) (.tup ds) = true := by unfold dOk; exact dOks_all h
theorem dOk_int {n : Nat} {i : Int} : dOk n (.int i) = true := by unfold dOk; rfl
theorem dOk_bl {n : Nat} {i : Bool} : dOk n (.bl i) = true := by unfold dOk; rfl
theorem dOk_non {n : Nat} : dOk n .non = true := by unfold dOk; rfl
theorem dOk_sg {n : Nat} {l : List Nat} (h : ∀ c ∈ l, c < 1114112) : dOk n (.str (sg l)) = true := by
  unfold dOk
  rw [sg_ok, List.all_eq_true]
  exact fun c hc => decide_eq_true (h c hc)
/-! ### a place in a list -/
theorem atI_in {α : Type} {xs : List α} {i : Int} (h0 : 0 ≤ i) (h1 : i < xs.length) : ∃ x, x ∈ xs ∧ atI xs i = some x ∧ xs[i.toNat]? = some x := by
  have hlt : i.toNat < xs.length := by omega
  refine ⟨xs[i.toNat], List.getElem_mem hlt, ?_, List.getElem?_eq_getElem hlt⟩
  have := atI_nat (xs := xs) (j := i.toNat) (List.getElem?_eq_getElem hlt)
  rwa [show ((i.toNat : Nat) : Int) = i by omega] at this
theorem gMul_w {i j : Int} (h : Builtin.Int.intBits i ≤ 1048576) (h1 : -1606938044258990275541962092341162602522202993782792835301376 < j) (h2 : j < 1606938044258990275541962092341162602522202993782792835301376) : gMul (.int i) (.int j) = some (.int (i * j)) := by
  refine gMul_b ?_
  have e : (2 : Nat) ^ 200 = 1606938044258990275541962092341162602522202993782792835301376 := by decide
  have : Builtin.Int.intBits j ≤ 200 := PySem.intBits_le_iff.mpr (by rw [e]; omega)
  omega
/-! ### a text among texts -/
theorem toVs_strs : ∀ ss : List Str, toVs (ss.map D.str) = some (ss.map V.str)
  | [] => rfl
  | s :: ss => by
    show (toV (.str s)).bind (fun v => (toVs (ss.map D.str)).map (v :: ·)) = _
    rw [toVs_strs ss]; rfl
theorem inV_strs (s : Str) (ss : List Str) : inV (.str s) (ss.map V.str) = decide (s ∈ ss) := by
  unfold inV
  rw [Bool.eq_iff_iff]
  simp only [List.any_map, List.any_eq_true, Function.comp_apply, decide_eq_true_eq]
  constructor
  · rintro ⟨x, h1, h2⟩
    have : (x == s) = true := h2
    rw [← eq_of_beq this]; exact h1
  · intro h
    exact ⟨s, h, show (s == s) = true from beq_self_eq_true s⟩
theorem flat_strs (ss : List Str) : (ss.map V.str).all flatV = true := by
  rw [List.all_eq_true]
  intro x hx
  obtain ⟨y, _, rfl⟩ := List.mem_map.mp hx
  rfl
theorem inQ_strs (s : Str) (ss : List Str) : inQ (.str s) (.lst (ss.map D.str)) = some (decide (s ∈ ss)) := by
  show inFlat (.str s) (ss.map D.str) = _
  unfold inFlat
  rw [toVs_strs]
  show (if (flatV (.str s) && (ss.map V.str).all flatV) = true then some (inV (.str s) (ss.map V.str)) else none) = _
  rw [flat_strs, inV_strs]; rfl
/-! ### bounds that a walk asks for -/
theorem rng_if {α : Type} {j : Int} {a b : α} (h1 : -4611686018427387904 ≤ j) (h2 : j < 4611686018427387904) : (if j < 4611686018427387904 ∧ -4611686018427387904 ≤ j then a else b) = a := if_pos ⟨h2, h1⟩
theorem rng2_if {α : Type} {i j : Int} {a b : α} (h1 : -4611686018427387904 ≤ i) (h2 : i < 4611686018427387904) (h3 : -4611686018427387904 ≤ j) (h4 : j < 4611686018427387904) : (if (i < 4611686018427387904 ∧ -4611686018427387904 ≤ i) ∧ (j < 4611686018427387904 ∧ -4611686018427387904 ≤ j) then a else b) = a := if_pos ⟨⟨h2, h1⟩, h4, h3⟩
theorem ifLe {α : Type} {n m : Nat} {a b : α} (h : n ≤ m) : (if n ≤ m then a else b) = a := if_pos h
theorem ifLt {α : Type} {n m : Nat} {a b : α} (h : n < m) : (if n < m then a else b) = a := if_pos h
theorem rng_len (lo : Int) (n : Nat) : (rngD lo n).length = n := by simp [rngD]
theorem rngD_cons (lo : Int) (n : Nat) : rngD lo (n + 1) = .int lo :: rngD (lo + 1) n := by
  unfold rngD
  rw [List.range_succ_eq_map, List.map_cons, List.map_map]
  congr 1
  · simp
  · apply List.map_congr_left
    intro k _
    show D.int (lo + ((k + 1 : Nat) : Int)) = D.int (lo + 1 + (k : Int))
    rw [show lo + ((k + 1 : Nat) : Int) = lo + 1 + (k : Int) by omega]
theorem rngD_nil (lo : Int) : rngD lo 0 = [] := rfl
/-! ### pieces of a text -/
theorem sIx_i {n d : Nat} {k : Int} (h : 0 ≤ k) : HT.sIx n d (some k) = min k.toNat n := by
  show (if k < 0 then (k + (n : Int)).toNat else min k.toNat n) = _
  rw [if_neg (by omega)]
theorem cutT_take {l : List Nat} {k : Int} (hl : l.length ≤ 16777216) (h : 0 ≤ k) : cutT (.p (.str (sg l))) none (some k) = some (.p (.str (sg (l.take k.toNat)))) := by
  rw [cutT_s (by rw [sg_len]; exact hl)]
  unfold cutS
  rw [sg_len, HT.sIx_none, sIx_i h]
  show some (T.p (.str (sg ((l.drop 0).take (min k.toNat l.length - 0))))) = _
  rw [List.drop_zero, Nat.sub_zero]
  congr 4
  rw [List.take_eq_take_iff]; simp
theorem cutT_drop {l : List Nat} {k : Int} (hl : l.length ≤ 16777216) (h : 0 ≤ k) : cutT (.p (.str (sg l))) (some k) none = some (.p (.str (sg (l.drop k.toNat)))) := by
  rw [cutT_s (by rw [sg_len]; exact hl)]
  unfold cutS
  rw [sg_len, HT.sIx_none, sIx_i h]
  show some (T.p (.str (sg ((l.drop (min k.toNat l.length)).take (l.length - min k.toNat l.length))))) = _
  congr 4
  rw [List.take_of_length_le (by rw [List.length_drop]; omega)]
  by_cases c : k.toNat ≤ l.length
  · rw [Nat.min_eq_left c]
  · rw [Nat.min_eq_right (by omega), List.drop_of_length_le (Nat.le_refl _), List.drop_of_length_le (by omega)]
theorem notInQ_g (c : Nat) (l : List Nat) : notInQ (.str (sg [c])) (.str (sg l)) = some (!decide (c ∈ l)) := rfl
theorem gLen_g {l : List Nat} (h : l.length ≤ 16777216) : gLen (.p (.str (sg l))) = some (.int (l.length : Int)) := by
  show ((if (sg l).length ≤ 16777216 then some (((sg l).length : Nat) : Int) else none)).map D.int = _
  rw [sg_len, if_pos h]; rfl
theorem bLe_t {i j : Int} (h : i ≤ j) : bLe i j = true := decide_eq_true h
theorem bLe_f {i j : Int} (h : ¬ i ≤ j) : bLe i j = false := decide_eq_false h
theorem bLt_t {i j : Int} (h : i < j) : bLt i j = true := decide_eq_true h
theorem bLt_f {i j : Int} (h : ¬ i < j) : bLt i j = false := decide_eq_false h
abbrev chr1 (c : Nat) : D := .str (sg [c])
/-! ### dicts -/
theorem valD_nil (k : Key) : valD [] k = none := rfl
theorem valD_cons (k j : Key) (d : D) (r : List (Key × D)) : valD ((j, d) :: r) k = if j = k then some d else valD r k := by
  by_cases c : j = k
  · rw [if_pos c]; simp [valD, List.find?_cons, c]
  · rw [if_neg c]; simp [valD, List.find?_cons, c]
theorem valD_app (k j : Key) (d : D) : ∀ r : List (Key × D), valD (r ++ [(j, d)]) k = match valD r k with
    | some x => some x
    | none => if j = k then some d else none
  | [] => by rw [List.nil_append, valD_cons, valD_nil]
  | (i, x) :: r => by
    rw [List.cons_append, valD_cons, valD_cons, valD_app k j d r]
    by_cases c : i = k
    · rw [if_pos c, if_pos c]
    · rw [if_neg c, if_neg c]
theorem valD_map (k j : Key) (d : D) : ∀ r : List (Key × D), valD (r.map fun kv => if kv.1 = j then (kv.1, d) else kv) k = if k = j then (valD r k).map (fun _ => d) else valD r k
  | [] => by simp [valD]
  | (i, x) :: r => by
    rw [List.map_cons]
    by_cases c : i = j
    · rw [if_pos c, valD_cons, valD_cons, valD_map k j d r]
      by_cases c2 : i = k
      · rw [if_pos c2, if_pos c2, if_pos (c2 ▸ c)]; rfl
      · rw [if_neg c2, if_neg c2]
    · rw [if_neg c, valD_cons, valD_cons, valD_map k j d r]
      by_cases c2 : i = k
      · rw [if_pos c2, if_pos c2, if_neg (fun z => c (c2.trans z))]
      · rw [if_neg c2, if_neg c2]
theorem any_val (k : Key) : ∀ r : List (Key × D), (r.any fun kv => decide (kv.1 = k)) = (valD r k).isSome
  | [] => rfl
  | (i, x) :: r => by
    rw [List.any_cons, valD_cons, any_val k r]
    by_cases c : i = k
    · simp [c]
    · simp [c]
theorem valD_put (k j : Key) (d : D) (r : List (Key × D)) : valD (putD r j d) k = if k = j then some d else valD r k := by
  unfold putD
  rw [any_val]
  cases hv : valD r j with
  | none =>
    rw [if_neg (by simp), valD_app]
    by_cases c : k = j
    · subst c; rw [hv, if_pos rfl]
    · rw [if_neg c, if_neg (fun z => c z.symm)]
      cases valD r k <;> rfl
  | some x =>
    rw [if_pos (by simp), valD_map]
    by_cases c : k = j
    · subst c; rw [if_pos rfl, if_pos rfl, hv]; rfl
    · rw [if_neg c, if_neg c]
end DL

set_option Elab.async false
set_option linter.all false
set_option maxRecDepth 100000
/-! Loops and comprehensions by their images; pieces of lists. -/
namespace DL
open PySem PySem.Spec PyProof.Rows L2
section
variable {G : GF} {F : SF} {d : D} {ds : List D} {env e2 : DL.Env} {r : Option (Fl × DL.Env)} {own : List Nat} {c : CF} {el : EF}
theorem loop_nx (h : (G (.p d) env).bind F = some (.nx, e2)) (ih : loopD G F ds e2 = r) : loopD G F (d :: ds) env = r := by
  obtain ⟨e1, h1, h2⟩ := obind h
  rw [loop_c, h1]
  show (F e1).bind _ = _
  rw [h2]
  exact ih
theorem loop_ct (h : (G (.p d) env).bind F = some (.ct, e2)) (ih : loopD G F ds e2 = r) : loopD G F (d :: ds) env = r := by
  obtain ⟨e1, h1, h2⟩ := obind h
  rw [loop_c, h1]
  show (F e1).bind _ = _
  rw [h2]
  exact ih
theorem loop_rt {t : T} (h : (G (.p d) env).bind F = some (.rt t, e2)) : loopD G F (d :: ds) env = some (.rt t, e2) := by
  obtain ⟨e1, h1, h2⟩ := obind h
  rw [loop_c, h1]
  show (F e1).bind _ = _
  rw [h2]; rfl
theorem loop_bk (h : (G (.p d) env).bind F = some (.bk, e2)) : loopD G F (d :: ds) env = some (.nx, e2) := by
  obtain ⟨e1, h1, h2⟩ := obind h
  rw [loop_c, h1]
  show (F e1).bind _ = _
  rw [h2]; rfl
/-- a loop over an image; the names' values by what was gone through -/
theorem loop_img {α : Type} (dd : α → D) (P : List α → DL.Env → Prop) : ∀ (xs done : List α) (env : DL.Env), P done env → (∀ (pre : List α) (x : α) (post : List α) (e : DL.Env), done ++ xs = pre ++ x :: post → P pre e → ∃ e2, ((G (.p (dd x)) e).bind F = some (.nx, e2) ∨ (G (.p (dd x)) e).bind F = some (.ct, e2)) ∧ P (pre ++ [x]) e2) →
    ∃ e', loopD G F (xs.map dd) env = some (.nx, e') ∧ P (done ++ xs) e'
  | [], done, env, h0, _ => ⟨env, rfl, by rw [List.append_nil]; exact h0⟩
  | x :: xs, done, env, h0, hs => by
    obtain ⟨e2, h1, h2⟩ := hs done x xs env rfl h0
    obtain ⟨e', h3, h4⟩ := loop_img dd P xs (done ++ [x]) e2 h2 fun pre y post e hp => hs pre y post e (by rw [← hp]; simp)
    refine ⟨e', ?_, by simpa using h4⟩
    rcases h1 with h1 | h1
    · exact loop_nx h1 h3
    · exact loop_ct h1 h3
theorem loop_img0 {α : Type} (dd : α → D) (P : List α → DL.Env → Prop) (xs : List α) {env : DL.Env} (h0 : P [] env) (hs : ∀ (pre : List α) (x : α) (post : List α) (e : DL.Env), xs = pre ++ x :: post → P pre e → ∃ e2, ((G (.p (dd x)) e).bind F = some (.nx, e2) ∨ (G (.p (dd x)) e).bind F = some (.ct, e2)) ∧ P (pre ++ [x]) e2) :
    ∃ e', loopD G F (xs.map dd) env = some (.nx, e') ∧ P xs e' := by
  have := loop_img (G := G) (F := F) dd P xs [] env h0 (by simpa using hs)
  simpa using this
/-- .. over 0, 1, .. -/
theorem loop_rng (P : Nat → DL.Env → Prop) (lo : Int) : ∀ (n k : Nat) (env : DL.Env), P k env → (∀ (i : Nat) (e : DL.Env), k ≤ i → i < k + n → P i e → ∃ e2, ((G (.p (.int (lo + (i : Int)))) e).bind F = some (.nx, e2) ∨ (G (.p (.int (lo + (i : Int)))) e).bind F = some (.ct, e2)) ∧ P (i + 1) e2) →
    ∃ e', loopD G F (rngD (lo + (k : Int)) n) env = some (.nx, e') ∧ P (k + n) e'
  | 0, k, env, h0, _ => ⟨env, rfl, h0⟩
  | n + 1, k, env, h0, hs => by
    obtain ⟨e2, h1, h2⟩ := hs k env (Nat.le_refl _) (by omega) h0
    obtain ⟨e', h3, h4⟩ := loop_rng P lo n (k + 1) e2 h2 fun i e a b => hs i e (by omega) (by omega)
    refine ⟨e', ?_, by rw [show k + (n + 1) = k + 1 + n by omega]; exact h4⟩
    rw [rngD_cons, show lo + (k : Int) + 1 = lo + ((k + 1 : Nat) : Int) by omega]
    rcases h1 with h1 | h1
    · exact loop_nx h1 h3
    · exact loop_ct h1 h3
theorem loop_rng0 (P : Nat → DL.Env → Prop) (n : Nat) {env : DL.Env} (h0 : P 0 env) (hs : ∀ (i : Nat) (e : DL.Env), i < n → P i e → ∃ e2, ((G (.p (.int (i : Int))) e).bind F = some (.nx, e2) ∨ (G (.p (.int (i : Int))) e).bind F = some (.ct, e2)) ∧ P (i + 1) e2) :
    ∃ e', loopD G F (rngD 0 n) env = some (.nx, e') ∧ P n e' := by
  have := loop_rng (G := G) (F := F) P 0 n 0 env h0 (fun i e _ h => by
    have := hs i e (by omega)
    simpa using this)
  simpa using this
/-- .. over enumerate -/
theorem loop_enum {α : Type} (dd : α → D) (P : List α → DL.Env → Prop) : ∀ (xs done : List α) (env : DL.Env), P done env → (∀ (pre : List α) (x : α) (post : List α) (e : DL.Env), done ++ xs = pre ++ x :: post → P pre e → ∃ e2, ((G (.p (.tup [.int (pre.length : Int), dd x])) e).bind F = some (.nx, e2) ∨ (G (.p (.tup [.int (pre.length : Int), dd x])) e).bind F = some (.ct, e2)) ∧ P (pre ++ [x]) e2) →
    ∃ e', loopD G F (enumD done.length (xs.map dd)) env = some (.nx, e') ∧ P (done ++ xs) e'
  | [], done, env, h0, _ => ⟨env, rfl, by rw [List.append_nil]; exact h0⟩
  | x :: xs, done, env, h0, hs => by
    obtain ⟨e2, h1, h2⟩ := hs done x xs env rfl h0
    obtain ⟨e', h3, h4⟩ := loop_enum dd P xs (done ++ [x]) e2 h2 fun pre y post e hp => hs pre y post e (by rw [← hp]; simp)
    refine ⟨e', ?_, by simpa using h4⟩
    rw [List.length_append, show [x].length = 1 from rfl] at h3
    rw [List.map_cons, enumD]
    rcases h1 with h1 | h1
    · exact loop_nx h1 h3
    · exact loop_ct h1 h3
theorem loop_enum0 {α : Type} (dd : α → D) (P : List α → DL.Env → Prop) (xs : List α) {env : DL.Env} (h0 : P [] env) (hs : ∀ (pre : List α) (x : α) (post : List α) (e : DL.Env), xs = pre ++ x :: post → P pre e → ∃ e2, ((G (.p (.tup [.int (pre.length : Int), dd x])) e).bind F = some (.nx, e2) ∨ (G (.p (.tup [.int (pre.length : Int), dd x])) e).bind F = some (.ct, e2)) ∧ P (pre ++ [x]) e2) :
    ∃ e', loopD G F (enumD 0 (xs.map dd)) env = some (.nx, e') ∧ P xs e' := by
  have := loop_enum (G := G) (F := F) dd P xs [] env h0 (by simpa using hs)
  simpa using this
/-- a comprehension item by item -/
theorem comp_ev {α : Type} (dd : α → D) (f : α → T) (xs : List α) (h : ∀ x ∈ xs, ∀ (r : List T) (rest : List D), compD own G c el rest env = some (r, env) → compD own G c el (dd x :: rest) env = some (f x :: r, env)) : compD own G c el (xs.map dd) env = some (xs.map f, env) := by
  induction xs with
  | nil => rfl
  | cons x xs ih => exact h x (by simp) _ _ (ih fun y hy => h y (by simp [hy]))
theorem comp_evF {α : Type} (dd : α → D) (p : α → Bool) (f : α → T) (xs : List α) (h : ∀ x ∈ xs, ∀ (r : List T) (rest : List D), compD own G c el rest env = some (r, env) → compD own G c el (dd x :: rest) env = some (if p x = true then f x :: r else r, env)) : compD own G c el (xs.map dd) env = some ((xs.filter p).map f, env) := by
  induction xs with
  | nil => rfl
  | cons x xs ih =>
    rw [List.map_cons, h x (by simp) _ _ (ih fun y hy => h y (by simp [hy]))]
    cases hp : p x with
    | true => rw [List.filter_cons_of_pos hp]; simp
    | false => rw [List.filter_cons_of_neg (by simp [hp])]; simp
/-- .. over 0, 1, .. -/
theorem comp_rng (f : Int → T) : ∀ (n : Nat) (lo : Int), (∀ (i : Int) (r : List T) (rest : List D), lo ≤ i → i < lo + n → compD own G c el rest env = some (r, env) → compD own G c el (.int i :: rest) env = some (f i :: r, env)) → compD own G c el (rngD lo n) env = some ((List.range n).map (fun (k : Nat) => f (lo + (k : Int))), env)
  | 0, lo, _ => rfl
  | n + 1, lo, h => by
    have ih := comp_rng f n (lo + 1) fun i r rest a b => h i r rest (by omega) (by omega)
    rw [rngD_cons, h lo _ _ (Int.le_refl _) (by omega) ih, List.range_succ_eq_map, List.map_cons, List.map_map]
    congr 3
    · simp
    · apply List.map_congr_left
      intro k _
      show f (lo + 1 + (k : Int)) = f (lo + ((k + 1 : Nat) : Int))
      congr 1; omega
end
/-- a piece of a list -/
def cutA {α : Type} (xs : List α) (lo hi : Option Int) : List α := (xs.drop (HT.sIx xs.length 0 lo)).take (HT.sIx xs.length xs.length hi - HT.sIx xs.length 0 lo)
theorem cutD_map {α : Type} (dd : α → D) (xs : List α) (lo hi : Option Int) : cutD (xs.map dd) lo hi = (cutA xs lo hi).map dd := by
  unfold cutD cutA
  rw [List.length_map, ← List.map_drop, ← List.map_take]
theorem cutA_mem {α : Type} {xs : List α} {lo hi : Option Int} {x : α} (h : x ∈ cutA xs lo hi) : x ∈ xs := List.mem_of_mem_drop (List.mem_of_mem_take h)
theorem cutA_len {α : Type} (xs : List α) (lo hi : Option Int) : (cutA xs lo hi).length ≤ xs.length := by
  unfold cutA
  rw [List.length_take, List.length_drop]; omega
theorem cutA_len2 {α : Type} (xs : List α) {lo hi : Int} (h0 : 0 ≤ lo) (h1 : lo ≤ hi) : (cutA xs (some lo) (some hi)).length ≤ (hi - lo).toNat := by
  unfold cutA
  rw [List.length_take, List.length_drop, sIx_i h0, sIx_i (by omega)]; omega
theorem toDs_map2 {α : Type} (f : α → T) (g : α → D) (xs : List α) (h : ∀ x ∈ xs, (f x).toD = g x) : T.toDs (xs.map f) = xs.map g := by
  rw [toDs_map, List.map_map]
  exact List.map_congr_left h
theorem toKs_pairs (k : List (Key × D)) : T.toKs (pairsT k) = k := D.dic.inj (toD_d k)
end DL

set_option Elab.async false
set_option linter.all false
set_option maxRecDepth 100000
set_option maxHeartbeats 2000000
/-! zip of a text (signs below 128) and a list. -/
namespace ZG
open PySem PySem.Spec PyProof.Rows L2
open PySem.Sem (wp)
/-- an iterator's next thing -/
def Gv (P : Program) (w : World) (i : Addr) (S S' : Heap → Prop) (V : Value → Prop) : Prop := ∀ (A : Around) (E : Value → Shared → Prop) (s : Shared) (Q : Value → Shared → Prop), S s.heap →
  (∀ v h' tk, V v → S' h' → Heap.SameBut i s.heap h' → Q v { s with heap := h', toks := tk }) → wpAny (model P w) A (Builtin.SmallTypes.nextOf (.ref i)) Q E s
/-- .. its end -/
def Gn (P : Program) (w : World) (i : Addr) (S : Heap → Prop) : Prop := ∀ (A : Around) (E : Value → Shared → Prop) (s : Shared) (Q : Value → Shared → Prop), A.handled = none → S s.heap →
  (∀ h' e, Heap.ExtBut i s.heap h' → (∃ o, h'.get? e = some o ∧ o.cls = .type "StopIteration") → E (.ref e) { s with heap := h' }) → wpAny (model P w) A (Builtin.SmallTypes.nextOf (.ref i)) Q E s
/-- it looks at some objects alone -/
def Lk (dep : List Addr) (S : Heap → Prop) : Prop := ∀ h h' : Heap, (∀ c ∈ dep, ∀ o, h.get? c = some o → h'.get? c = some o) → S h → S h'
structure Far (z TI TO i1 i2 : Addr) (d1 d2 : List Addr) : Prop where
  TIz : TI ≠ z
  TOz : TO ≠ z
  i1z : i1 ≠ z
  i2z : i2 ≠ z
  TITO : TI ≠ TO
  TIi1 : TI ≠ i1
  TIi2 : TI ≠ i2
  TOi1 : TO ≠ i1
  TOi2 : TO ≠ i2
  d1z : ∀ c ∈ d1, c ≠ z
  d1TO : ∀ c ∈ d1, c ≠ TO
  d1i2 : ∀ c ∈ d1, c ≠ i2
  d2z : ∀ c ∈ d2, c ≠ z
  d2TO : ∀ c ∈ d2, c ≠ TO
  d2i1 : ∀ c ∈ d2, c ≠ i1
section
variable {P : Program} {w : World} {A : Around} {E : Value → Shared → Prop} {s : Shared} {z TI TO i1 i2 : Addr} {d1 d2 : List Addr} {S1 S1' S2 S2' : Heap → Prop} {V1 V2 : Value → Prop} {a b : Value}
theorem zg_item {Q : Value → Shared → Prop} (D : Far z TI TO i1 i2 d1 d2) (g1 : Gv P w i1 S1 S1' V1) (g2 : Gv P w i2 S2 S2' V2) (k1' : Lk d1 S1) (k1 : Lk d1 S1') (k2 : Lk d2 S2) (k2' : Lk d2 S2')
    (qz : IsZip s.heap z TI TO .none) (qI : IsPair s.heap TI (.ref i1) (.ref i2)) (qO : IsPair s.heap TO a b) (q1 : S1 s.heap) (q2 : S2 s.heap)
    (fin : ∀ x y h' tk, V1 x → V2 y → IsZip h' z TI TO (rawInt s.heap.objs.size) → IsPair h' TO x y → S1' h' → S2' h' → IsPair h' s.heap.objs.size x y → h'.objs.size = s.heap.objs.size + 1 →
      (∀ c o, c ≠ z → c ≠ TO → c ≠ i1 → c ≠ i2 → s.heap.get? c = some o → h'.get? c = some o) → Q (.ref s.heap.objs.size) { s with heap := h', toks := tk }) :
    wpAny (model P w) A (Builtin.«zip.__next__» ⟨[.ref z], []⟩) (fun r s' => ∃ v, r = .done (.ret v) ∧ Q v s') E s := by
  show wpAny _ _ (field (.ref z) 2 >>= _) _ _ _; refine wpAny_bind (wpAny_field qz rfl (x := .bool false) rfl ?_)
  show wpAny _ _ (field (.ref z) 3 >>= _) _ _ _; refine wpAny_bind (wpAny_field qz rfl (x := .ref TI) rfl ?_)
  refine wpAny_bind (wpAny_seqItems qI rfl ?_)
  show wpAny _ _ (Builtin.SmallTypes.ownedTupleIsFree (.ref z) >>= _) _ _ _; refine wpAny_bind ?_; unfold Builtin.SmallTypes.ownedTupleIsFree
  refine wpAny_bind (wpAny_field qz rfl (x := .none) rfl (wpAny_pure ?_)); simp only [if_true]; refine wpAny_bind (wpAny_rule ?_)
  refine wpAny_bind (wpAny_field qz rfl (x := .ref TO) rfl ?_)
  refine wpAny_bind (wpAny_setField_rec qz (by simp) fun ha qza sa => ?_)
  replace qza : IsZip ha z TI TO .ellipsis := qza
  refine wpAny_bind ?_; simp only [List.zipIdx_cons, List.zipIdx_nil, List.forIn_cons, List.forIn_nil]; refine wpAny_bind (wpAny_bind (wpAny_onRaise ?_))
  show wpAny _ _ (Builtin.SmallTypes.nextOf (.ref i1) >>= _) _ _ _
  refine wpAny_bind (g1 _ _ _ _ (k1' _ _ (fun c hc o e => sa.extBut c o (D.d1z c hc) e) q1) fun x hb tb vx qb sb => wpAny_pure ?_)
  have qOb : IsPair hb TO a b := sb.extBut _ _ D.TOi1 (sa.extBut _ _ D.TOz qO)
  refine wpAny_bind (wpAny_seqItems qOb rfl ?_)
  refine wpAny_bind (wpAny_updateSeq_pair qOb fun hc qOc sc => ?_)
  replace qOc : IsPair hc TO x b := qOc
  refine wpAny_bind (wpAny_letGo (wpAny_pure ?_)); refine wpAny_bind (wpAny_bind (wpAny_onRaise ?_))
  show wpAny _ _ (Builtin.SmallTypes.nextOf (.ref i2) >>= _) _ _ _
  refine wpAny_bind (g2 _ _ _ _ (k2 _ _ (fun c hm o e => sc.extBut c o (D.d2TO c hm) (sb.extBut c o (D.d2i1 c hm) (sa.extBut c o (D.d2z c hm) e))) q2) fun y hd td vy qd sd => wpAny_pure ?_)
  have qOd : IsPair hd TO x b := sd.extBut _ _ D.TOi2 qOc
  refine wpAny_bind (wpAny_seqItems qOd rfl ?_)
  refine wpAny_bind (wpAny_updateSeq_pair qOd fun he qOe se => ?_)
  replace qOe : IsPair he TO x y := qOe
  refine wpAny_bind (wpAny_letGo (wpAny_pure (wpAny_pure ?_))); refine wpAny_bind (wpAny_seqItems qOe rfl ?_); refine wpAny_bind (wpAny_newTuple ?_)
  have size5 : he.objs.size = s.heap.objs.size := by rw [se.1, sd.1, sc.1, sb.1, sa.1]
  have qze : IsZip he z TI TO .ellipsis := se.extBut _ _ D.TOz.symm (sd.extBut _ _ D.i2z.symm (sc.extBut _ _ D.TOz.symm (sb.extBut _ _ D.i1z.symm qza)))
  have keepE : ∀ c o, c ≠ z → c ≠ TO → c ≠ i1 → c ≠ i2 → s.heap.get? c = some o → he.get? c = some o := fun c o n1 n2 n3 n4 e =>
    se.extBut _ _ n2 (sd.extBut _ _ n4 (sc.extBut _ _ n2 (sb.extBut _ _ n3 (sa.extBut _ _ n1 e))))
  have q1e : S1' he := k1 _ _ (fun c hm o e => se.extBut c o (D.d1TO c hm) (sd.extBut c o (D.d1i2 c hm) (sc.extBut c o (D.d1TO c hm) e))) qb
  have q2e : S2' he := k2' _ _ (fun c hm o e => se.extBut c o (D.d2TO c hm) e) qd
  have zlt : z < he.objs.size := Heap.lt_size qze
  show wpAny _ _ (Builtin.SmallTypes.ownedTupleHandOut (.ref z) (.ref he.objs.size) >>= _) _ _ _; refine wpAny_bind ?_; unfold Builtin.SmallTypes.ownedTupleHandOut
  have qzf : IsZip (he.push { cls := .type "tuple", data := .seq #[x, y] }) z TI TO .ellipsis := Heap.get?_push_of_some _ qze
  refine wpAny_bind (wpAny_setField_rec qzf (by simp) fun hg qzg sg' => ?_)
  replace qzg : IsZip hg z TI TO (rawInt he.objs.size) := qzg
  refine wpAny_setField_rec qzg (by simp) fun hh qzh sh => ?_
  replace qzh : IsZip hh z TI TO (rawInt he.objs.size) := qzh
  have up : ∀ c o, c ≠ z → he.get? c = some o → hh.get? c = some o := fun c o n1 e => sh.extBut _ _ n1 (sg'.extBut _ _ n1 (Heap.get?_push_of_some _ e))
  have qT : IsPair hh he.objs.size x y := sh.extBut _ _ (Nat.ne_of_gt zlt) (sg'.extBut _ _ (Nat.ne_of_gt zlt) (Heap.get?_push_size _ rfl))
  have sz8 : hh.objs.size = he.objs.size + 1 := by rw [sh.1, sg'.1, Heap.size_push]
  rw [size5] at qzh qT sz8
  refine wpAny_pure ⟨_, rfl, ?_⟩
  show Q (.ref he.objs.size) _; rw [size5]
  exact fin x y hh _ vx vy qzh (up _ _ D.TOz qOe) (k1 _ _ (fun c hm o e => up c o (D.d1z c hm) e) q1e) (k2' _ _ (fun c hm o e => up c o (D.d2z c hm) e) q2e) qT sz8 fun c o n1 n2 n3 n4 e => up c o n1 (keepE c o n1 n2 n3 n4 e)
theorem zg_end {Q : Fin → Shared → Prop} (ho : A.handled = none) (D : Far z TI TO i1 i2 d1 d2) (hend : Gn P w i1 S1 ∨ (Gv P w i1 S1 S1' V1 ∧ Gn P w i2 S2)) (k1 : Lk d1 S1) (k2 : Lk d2 S2)
    (qz : IsZip s.heap z TI TO .none) (qI : IsPair s.heap TI (.ref i1) (.ref i2)) (qO : IsPair s.heap TO a b) (q1 : S1 s.heap) (q2 : S2 s.heap)
    (fin : ∀ h' e tk, (∀ c o, c ≠ z → c ≠ TO → c ≠ i1 → c ≠ i2 → s.heap.get? c = some o → h'.get? c = some o) → (∃ o, h'.get? e = some o ∧ o.cls = .type "StopIteration") → E (.ref e) { s with heap := h', toks := tk }) :
    wpAny (model P w) A (Builtin.«zip.__next__» ⟨[.ref z], []⟩) Q E s := by
  show wpAny _ _ (field (.ref z) 2 >>= _) _ _ _; refine wpAny_bind (wpAny_field qz rfl (x := .bool false) rfl ?_)
  show wpAny _ _ (field (.ref z) 3 >>= _) _ _ _; refine wpAny_bind (wpAny_field qz rfl (x := .ref TI) rfl ?_)
  refine wpAny_bind (wpAny_seqItems qI rfl ?_)
  show wpAny _ _ (Builtin.SmallTypes.ownedTupleIsFree (.ref z) >>= _) _ _ _; refine wpAny_bind ?_; unfold Builtin.SmallTypes.ownedTupleIsFree
  refine wpAny_bind (wpAny_field qz rfl (x := .none) rfl (wpAny_pure ?_)); simp only [if_true]; refine wpAny_bind (wpAny_rule ?_)
  refine wpAny_bind (wpAny_field qz rfl (x := .ref TO) rfl ?_)
  refine wpAny_bind (wpAny_setField_rec qz (by simp) fun ha qza sa => ?_)
  replace qza : IsZip ha z TI TO .ellipsis := qza
  refine wpAny_bind ?_; simp only [List.zipIdx_cons, List.zipIdx_nil, List.forIn_cons, List.forIn_nil]; refine wpAny_bind (wpAny_bind (wpAny_onRaise ?_))
  show wpAny _ _ (Builtin.SmallTypes.nextOf (.ref i1) >>= _) _ _ _
  have q1a : S1 ha := k1 _ _ (fun c hc o e => sa.extBut c o (D.d1z c hc) e) q1
  rcases hend with n1 | ⟨g1, n2⟩
  · refine wpAny_bind (n1 _ _ _ _ ho q1a fun hb e sb st => ?_)
    obtain ⟨oe, hoe, hce⟩ := st
    have qzb : IsZip hb z TI TO .ellipsis := sb _ _ D.i1z.symm qza
    have ez : e ≠ z := fun x => by subst x; rw [qzb] at hoe; cases hoe; simp at hce
    refine wpAny_setField_rec qzb (by simp) fun hc _ sc => fin hc e _ (fun c o m1 _ m3 _ x => sc.extBut _ _ m1 (sb _ _ m3 (sa.extBut _ _ m1 x))) ⟨oe, sc.extBut _ _ ez hoe, hce⟩
  · refine wpAny_bind (g1 _ _ _ _ q1a fun x hb tb vx qb sb => wpAny_pure ?_)
    have qOb : IsPair hb TO a b := sb.extBut _ _ D.TOi1 (sa.extBut _ _ D.TOz qO)
    refine wpAny_bind (wpAny_seqItems qOb rfl ?_)
    refine wpAny_bind (wpAny_updateSeq_pair qOb fun hc qOc sc => ?_)
    refine wpAny_bind (wpAny_letGo (wpAny_pure ?_)); refine wpAny_bind (wpAny_bind (wpAny_onRaise ?_))
    show wpAny _ _ (Builtin.SmallTypes.nextOf (.ref i2) >>= _) _ _ _
    refine wpAny_bind (n2 _ _ _ _ ho (k2 _ _ (fun c hm o e => sc.extBut c o (D.d2TO c hm) (sb.extBut c o (D.d2i1 c hm) (sa.extBut c o (D.d2z c hm) e))) q2) fun hd e sd st => ?_)
    obtain ⟨oe, hoe, hce⟩ := st
    have qzd : IsZip hd z TI TO .ellipsis := sd _ _ D.i2z.symm (sc.extBut _ _ D.TOz.symm (sb.extBut _ _ D.i1z.symm qza))
    have ez : e ≠ z := fun x => by subst x; rw [qzd] at hoe; cases hoe; simp at hce
    refine wpAny_setField_rec qzd (by simp) fun hf _ sf => fin hf e _ (fun c o m1 m2 m3 m4 x => sf.extBut _ _ m1 (sd _ _ m4 (sc.extBut _ _ m2 (sb.extBut _ _ m3 (sa.extBut _ _ m1 x))))) ⟨oe, sf.extBut _ _ ez hoe, hce⟩
theorem nx_item {Q : Option Value → Shared → Prop} (D : Far z TI TO i1 i2 d1 d2) (g1 : Gv P w i1 S1 S1' V1) (g2 : Gv P w i2 S2 S2' V2) (k1' : Lk d1 S1) (k1 : Lk d1 S1') (k2 : Lk d2 S2) (k2' : Lk d2 S2')
    (qz : IsZip s.heap z TI TO .none) (qI : IsPair s.heap TI (.ref i1) (.ref i2)) (qO : IsPair s.heap TO a b) (q1 : S1 s.heap) (q2 : S2 s.heap)
    (fin : ∀ x y h' tk, V1 x → V2 y → IsZip h' z TI TO (rawInt s.heap.objs.size) → IsPair h' TO x y → S1' h' → S2' h' → IsPair h' s.heap.objs.size x y → h'.objs.size = s.heap.objs.size + 1 →
      (∀ c o, c ≠ z → c ≠ TO → c ≠ i1 → c ≠ i2 → s.heap.get? c = some o → h'.get? c = some o) → Q (some (.ref s.heap.objs.size)) { s with heap := h', toks := tk }) : wpAny (model P w) A (pyNext (.ref z)) Q E s := by
  have ty : s.TypeIs (.ref z) "zip" := ⟨_, qz, rfl⟩
  unfold pyNext
  exact wpAny_bind (wpAny_attempt (wpAny_callSpecial?_slot (name := Str.ofString "__next__") ty F.slot_zip_next (wpAny_call_entry F.slot_zip_next ty F.entry_zip_next
    (zg_item D g1 g2 k1' k1 k2 k2' qz qI qO q1 q2 fun x y h' tk m1 m2 m3 m4 m5 m6 m7 m8 m9 => wpAny_pure (fin x y h' tk m1 m2 m3 m4 m5 m6 m7 m8 m9)) (F.args_zip_next_1 _))))
theorem nx_end {Q : Option Value → Shared → Prop} (ho : A.handled = none) (D : Far z TI TO i1 i2 d1 d2) (hend : Gn P w i1 S1 ∨ (Gv P w i1 S1 S1' V1 ∧ Gn P w i2 S2)) (k1 : Lk d1 S1) (k2 : Lk d2 S2)
    (qz : IsZip s.heap z TI TO .none) (qI : IsPair s.heap TI (.ref i1) (.ref i2)) (qO : IsPair s.heap TO a b) (q1 : S1 s.heap) (q2 : S2 s.heap)
    (fin : ∀ h' tk, (∀ c o, c ≠ z → c ≠ TO → c ≠ i1 → c ≠ i2 → s.heap.get? c = some o → h'.get? c = some o) → Q none { s with heap := h', toks := tk }) : wpAny (model P w) A (pyNext (.ref z)) Q E s := by
  have ty : s.TypeIs (.ref z) "zip" := ⟨_, qz, rfl⟩
  unfold pyNext
  refine wpAny_bind (wpAny_attempt (wpAny_callSpecial?_slot (name := Str.ofString "__next__") ty F.slot_zip_next (wpAny_call_entry F.slot_zip_next ty F.entry_zip_next
    (zg_end ho D hend k1 k2 qz qI qO q1 q2 fun h' e tk hk he => ?_) (F.args_zip_next_1 _))))
  obtain ⟨o, go, gc⟩ := he
  exact wpAny_bind (wpAny_isInstance (T := "StopIteration") (b := true) ⟨o, go, gc⟩ isSubtype_stop (wpAny_pure (fin _ _ hk)))
end
/-! ### a text and a list -/
theorem gv_str {P : Program} {w : World} {i : Addr} {x : Str} {t : Tok} {k c : Nat} (hx : x.cps[k]? = some c) : Gv P w i (fun h => h.IsStrIter i "str_ascii_iterator" x t k) (fun h => h.IsStrIter i "str_ascii_iterator" x t (k + 1)) (fun v => ∃ u, v = .str ⟨#[c]⟩ u) :=
  fun _ _ _ _ st q => wpAny_nextOf_ascii_item st hx fun h' st' sb => q _ h' _ ⟨_, rfl⟩ st' sb
theorem gn_str {P : Program} {w : World} {i : Addr} {x : Str} {t : Tok} {k : Nat} (hx : x.cps[k]? = none) : Gn P w i (fun h => h.IsStrIter i "str_ascii_iterator" x t k) :=
  fun _ _ _ _ ho st q => wpAny_nextOf_ascii_end ho st hx q
theorem lk_str {i : Addr} {x : Str} {t : Tok} {k : Nat} : Lk [i] (fun h => h.IsStrIter i "str_ascii_iterator" x t k) := fun h h' kp st => by
  obtain ⟨o, ho, r⟩ := st
  exact ⟨o, kp i (by simp) o ho, r⟩
theorem gv_lst {P : Program} {w : World} {i l : Addr} {ys : Array Value} {k : Nat} {y : Value} (hil : l ≠ i) (hy : ys[k]? = some y) : Gv P w i (fun h => h.IsListIter i l k ∧ h.IsList l ys) (fun h => h.IsListIter i l (k + 1) ∧ h.IsList l ys) (fun v => v = y) :=
  fun _ _ _ _ st q => wpAny_nextOf_list_item st.1 st.2 hy fun h' st' sb => q _ h' _ rfl ⟨st', st.2.extBut sb.extBut hil⟩ sb
theorem gn_lst {P : Program} {w : World} {i l : Addr} {ys : Array Value} {k : Nat} (hy : ys[k]? = none) : Gn P w i (fun h => h.IsListIter i l k ∧ h.IsList l ys) :=
  fun _ _ _ _ ho st q => wpAny_nextOf_list_end ho st.1 st.2 hy q
theorem lk_lst {i l : Addr} {ys : Array Value} {k : Nat} : Lk [i, l] (fun h => h.IsListIter i l k ∧ h.IsList l ys) := fun h h' kp st =>
  ⟨st.1.at fun o e => kp i (by simp) o e, st.2.at fun o e => kp l (by simp) o e⟩
def ItZ (K : PySem.W.Frag) (x : Str) (b : Addr) : It :=
  ⟨fun i H => i < x.cps.size ∧ ∃ (ys : List V) (y : V), SqL K H b ys ∧ ys[i]? = some y,
    fun i H v H' => ∃ (tt : Addr) (c : Nat) (y : V), v = .ref tt ∧ H tt = none ∧ H' = upd H tt (.tup [.str ⟨#[c]⟩, y]) ∧ x.cps[i]? = some c ∧ ∀ ys, SqL K H b ys → ys[i]? = some y,
    fun i H => (∃ ys : List V, SqL K H b ys) ∧ (x.cps.size ≤ i ∨ ∃ ys : List V, SqL K H b ys ∧ ys.length ≤ i)⟩
def chainZ (n : Nat) : List Addr := [n + 4, n + 2, n + 3, n, n + 1]
theorem far_new (n b : Nat) (h : b < n) : Far (n + 4) (n + 2) (n + 3) n (n + 1) [n] [n + 1, b] := by
  have one : ∀ {p : Nat → Prop} {x : Nat}, p x → ∀ c ∈ [x], p c := fun {p x} hp c hc => by rw [List.mem_singleton.mp hc]; exact hp
  have two : ∀ {p : Nat → Prop} {x y : Nat}, p x → p y → ∀ c ∈ [x, y], p c := fun {p x y} hp hq c hc => by
    rcases List.mem_cons.mp hc with rfl | hc
    · exact hp
    · rw [List.mem_singleton.mp hc]; exact hq
  have ne : ∀ {x y : Nat}, (x < y ∨ y < x) → x ≠ y := fun h e => by omega
  exact ⟨ne (by omega), ne (by omega), ne (by omega), ne (by omega), ne (by omega), ne (by omega), ne (by omega), ne (by omega), ne (by omega),
    one (ne (by omega)), one (ne (by omega)), one (ne (by omega)), two (ne (by omega)) (ne (by omega)), two (ne (by omega)) (ne (by omega)), two (ne (by omega)) (ne (by omega))⟩
/-- how the zip object, its parts, its iterators stand -/
structure StZ (x : Str) (t : Tok) (b : Addr) (n k : Nat) (h : Heap) : Prop where
  zp : IsZip h (n + 4) (n + 2) (n + 3) .none
  pI : IsPair h (n + 2) (.ref n) (.ref (n + 1))
  pO : ∃ u v, IsPair h (n + 3) u v
  si : h.IsStrIter n "str_ascii_iterator" x t k
  li : h.IsListIter (n + 1) b k
theorem StZ.there {x : Str} {t : Tok} {b : Addr} {n k : Nat} {h : Heap} (S : StZ x t b n k h) : ∀ c ∈ chainZ n, ∃ o, h.get? c = some o ∧ ∀ v, o.data ≠ .cell v := fun c hc => by
  obtain ⟨u, v, pO⟩ := S.pO
  obtain ⟨o1, g1, _, d1⟩ := S.si
  obtain ⟨o2, g2, _, d2⟩ := S.li
  simp only [chainZ, List.mem_cons, List.not_mem_nil, or_false] at hc
  rcases hc with rfl | rfl | rfl | rfl | rfl
  · exact ⟨_, S.zp, fun _ q => nomatch q⟩
  · exact ⟨_, S.pI, fun _ q => nomatch q⟩
  · exact ⟨_, pO, fun _ q => nomatch q⟩
  · exact ⟨o1, g1, fun _ q => by rw [d1] at q; cases q⟩
  · exact ⟨o2, g2, fun _ q => by rw [d2] at q; cases q⟩
theorem turnZ {P : Program} {w : World} {K : PySem.W.Frag} {elts : List Expr} {kk : Nat} {tpos : Pos} {x : Str} {t : Tok} {b n : Addr} (hbn : (b : Nat) < n) :
    Turn P w K (.Tuple elts kk tpos) (ItZ K x b) (chainZ n) (n + 4) (fun k h => StZ x t b n k h) where
  mem := by simp [chainZ]
  obj := fun i h st c hc => st.there c hc
  keep := fun i h h' st kp => by
    obtain ⟨u, v, pO⟩ := st.pO
    exact ⟨kp _ (by simp [chainZ]) _ st.zp, kp _ (by simp [chainZ]) _ st.pI, ⟨u, v, kp _ (by simp [chainZ]) _ pO⟩, lk_str _ _ (fun c hc o e => kp c (by rw [List.mem_singleton.mp hc]; simp [chainZ]) o e) st.si, st.li.at fun o e => kp _ (by simp [chainZ]) o e⟩
  item := by
    intro X eP eW eK calm i pins s σ H E I hf st go
    subst eP eW eK
    obtain ⟨hlt, ys, y, hqy, hy⟩ := go
    obtain ⟨its, rv, p, _⟩ := I.list hqy
    obtain ⟨u2, hu2, ru2⟩ := rv.get hy
    obtain ⟨u, v, pO⟩ := st.pO
    have zl : n + 4 < s.heap.objs.size := Heap.lt_size st.zp
    have D := far_new n b hbn
    have bi : (b : Nat) ≠ n + 1 := Nat.ne_of_lt (Nat.lt_succ_of_lt hbn)
    refine nx_item D (gv_str (Array.getElem?_eq_getElem hlt)) (gv_lst (ys := its.toArray) (y := u2) bi (by simpa using hu2)) lk_str lk_str lk_lst lk_lst st.zp st.pI pO st.si ⟨st.li, p.isList⟩ fun vx vy h' tk ⟨tu, ex⟩ ey z' pO' s1' s2' hT hsz hk => ?_
    subst ex ey
    refine ⟨_, rfl, wpAny_letOwnedTupleGo_zip (s := { s with heap := h', toks := tk }) z' fun h'' z'' sb => ?_⟩
    have hT2 : h''.get? s.heap.objs.size = some { cls := .type "tuple", data := .seq #[.str ⟨#[x.cps[i]]⟩ tu, vy] } := (sb.2 _ (Nat.ne_of_gt zl)).trans hT
    have new : ObjOk X.prog X.w (upd H s.heap.objs.size (.tup [.str ⟨#[x.cps[i]]⟩, y])) h'' s.heap.objs.size (.tup [.str ⟨#[x.cps[i]]⟩, y]) :=
      ⟨by show 2 ≤ sizeLine; decide, [_, vy], .cons ⟨tu, rfl⟩ (.cons ru2 .nil), ⟨_, hT2, rfl, _, rfl⟩⟩
    have far : ∀ {c : Addr}, c ∉ chainZ n → c ≠ n + 4 ∧ c ≠ n + 3 ∧ c ≠ n ∧ c ≠ n + 1 := fun {c} hb => ⟨fun e => hb (by rw [e]; simp [chainZ]), fun e => hb (by rw [e]; simp [chainZ]), fun e => hb (by rw [e]; simp [chainZ]), fun e => hb (by rw [e]; simp [chainZ])⟩
    have I1 : Inv X pins σ (upd H s.heap.objs.size (.tup [.str ⟨#[x.cps[i]]⟩, y])) { s with heap := h'', toks := tk } :=
      I.turnedNew (t' := tk) (ch := chainZ n) (fun c o hb q => (sb.2 c (far hb).1).trans (hk c o (far hb).1 (far hb).2.1 (far hb).2.2.1 (far hb).2.2.2 q)) hf (Nat.le_refl _) new
    refine ⟨.ref s.heap.objs.size, _, I1, rfl, ⟨_, x.cps[i], y, rfl, I.hok.fresh (Nat.le_refl _), rfl, Array.getElem?_eq_getElem hlt, fun l hl => by rw [I.list_inj hl hqy]; exact hy⟩, ⟨z'', (sb.2 _ D.TIz).trans (hk _ _ D.TIz D.TITO D.TIi1 D.TIi2 st.pI), ⟨_, vy, (sb.2 _ D.TOz).trans pO'⟩, lk_str _ _ (fun c hc o e => (sb.2 c (by rw [List.mem_singleton.mp hc]; exact D.i1z)).trans e) s1', s2'.1.at fun o q => (sb.2 _ D.i2z).trans q⟩, fun c hcm => ?_⟩
    obtain ⟨o, ho, _⟩ := st.there c hcm
    rw [upd_ne (Nat.ne_of_lt (Heap.lt_size ho))]
    exact (hf c hcm).1
  done := by
    intro X eP eW eK calm i pins s σ H E I hf st go
    subst eP eW eK
    obtain ⟨⟨ys, hqy⟩, hend⟩ := go
    obtain ⟨its, rv, p, _⟩ := I.list hqy
    have ln := rv.length
    obtain ⟨u, v, pO⟩ := st.pO
    have far : ∀ {c : Addr}, c ∉ chainZ n → c ≠ n + 4 ∧ c ≠ n + 3 ∧ c ≠ n ∧ c ≠ n + 1 := fun {c} hb => ⟨fun e => hb (by rw [e]; simp [chainZ]), fun e => hb (by rw [e]; simp [chainZ]), fun e => hb (by rw [e]; simp [chainZ]), fun e => hb (by rw [e]; simp [chainZ])⟩
    have bi : (b : Nat) ≠ n + 1 := Nat.ne_of_lt (Nat.lt_succ_of_lt hbn)
    have two : Gn X.prog X.w n (fun h => h.IsStrIter n "str_ascii_iterator" x t i) ∨ (Gv X.prog X.w n (fun h => h.IsStrIter n "str_ascii_iterator" x t i) (fun h => h.IsStrIter n "str_ascii_iterator" x t (i + 1)) (fun v => ∃ u, v = .str ⟨#[x.cps.getD i 0]⟩ u) ∧ Gn X.prog X.w (n + 1) (fun h => h.IsListIter (n + 1) b i ∧ h.IsList b its.toArray)) := by
      by_cases hlt : i < x.cps.size
      · refine .inr ⟨gv_str (by rw [Array.getElem?_eq_getElem hlt]; simp [hlt]), gn_lst ?_⟩
        rcases hend with q | ⟨ys', q1, q2⟩
        · omega
        · rw [I.list_inj q1 hqy] at q2
          simp; omega
      · exact .inl (gn_str (Array.getElem?_eq_none (by omega)))
    exact nx_end (I.ok.hd calm) (far_new n b hbn) two lk_str lk_lst st.zp st.pI pO st.si ⟨st.li, p.isList⟩ fun h' tk hk => ⟨rfl, I.turnedL (t' := tk) (ch := chainZ n) (fun c o hb q => hk c o (far hb).1 (far hb).2.1 (far hb).2.2.1 (far hb).2.2.2 q) hf⟩
  self := fun A i s Q E st h => wpAny_pyIter_zip st.zp h
/-! ### zip(text, list) is made -/
abbrev hz1 (h : Heap) (x : Str) (t : Tok) : Heap := h.push { cls := .type "str_ascii_iterator", data := .fields #[.str x t, .int 0 0] }
abbrev hz2 (h : Heap) (x : Str) (t : Tok) (b : Addr) : Heap := (hz1 h x t).push { cls := .type "list_iterator", data := .fields #[.ref b, .int 0 0] }
abbrev hz3 (h : Heap) (x : Str) (t : Tok) (b : Addr) : Heap := (hz2 h x t b).push { cls := .type "tuple", data := .seq #[.ref h.objs.size, .ref (hz1 h x t).objs.size] }
abbrev hz4 (h : Heap) (x : Str) (t : Tok) (b : Addr) : Heap := (hz3 h x t b).push { cls := .type "tuple", data := .seq #[.none, .none] }
abbrev hz5 (h : Heap) (x : Str) (t : Tok) (b : Addr) : Heap := (hz4 h x t b).push { cls := .type "zip", data := .fields #[.none, .bool false, .bool false, .ref (hz2 h x t b).objs.size, .ref (hz3 h x t b).objs.size] }
theorem meets_new (x : Str) (t : Tok) (b : Addr) (ys : Array Value) (hx : x.cps.all (· < 128) = true) :
    Meets (Builtin.«zip.__new__» ⟨[.type "zip", .str x t, .ref b], []⟩) (fun _ R s => s.heap.IsList b ys ∧ R (.ok (.ret (.ref (hz4 s.heap x t b).objs.size))) { s with heap := hz5 s.heap x t b }) :=
  .of_wp fun prog w A R s h => by
    obtain ⟨hp, g, d, tk, os⟩ := s; obtain ⟨hl2, h⟩ := h
    have hsub := sub_zip
    have l2 : Heap.IsList (Shared.heap ⟨hp.push { cls := .type "str_ascii_iterator", data := .fields #[.str x t, .int 0 0] }, g, d, tk, os⟩) b ys := Heap.IsList.push hl2 _
    wp_walk using wpAny_pyIter_ascii hx, wpAny_pyIter_list l2
    exact ⟨_, rfl, h⟩
theorem call_new {P : Program} {w : World} {A : Around} {E : Value → Shared → Prop} {s : Shared} {x : Str} {t : Tok} {b : Addr} {ys : Array Value} {Q : Value → Shared → Prop} (hx : x.cps.all (· < 128) = true) (hl : s.heap.IsList b ys)
    (h : ∀ h', StZ x t b s.heap.objs.size 0 h' → (∀ c o, s.heap.get? c = some o → h'.get? c = some o) → Q (.ref (s.heap.objs.size + 4)) { s with heap := h' }) : wpAny (model P w) A (call (.type "zip") [.str x t, .ref b]) Q E s := by
  refine callType_new F.called_zip (by decide) (F.typeCall_zip_2 _ _) (F.newCall_zip_2 _ _) (fun obj => F.args_object_init_3 obj _ _) F.entry_zip_new (meets_new x t b ys hx) ⟨hl, ?_⟩
  have e1 : (hz1 s.heap x t).objs.size = s.heap.objs.size + 1 := Heap.size_push ..
  have e2 : (hz2 s.heap x t b).objs.size = s.heap.objs.size + 2 := by rw [Heap.size_push, e1]
  have e3 : (hz3 s.heap x t b).objs.size = s.heap.objs.size + 3 := by rw [Heap.size_push, e2]
  have e4 : (hz4 s.heap x t b).objs.size = s.heap.objs.size + 4 := by rw [Heap.size_push, e3]
  have up1 : ∀ {h : Heap} {o o' : Obj} {c : Addr}, h.get? c = some o' → (h.push o).get? c = some o' := fun e => Heap.get?_push_of_some _ e
  have f5 : (hz5 s.heap x t b).get? (hz4 s.heap x t b).objs.size = some _ := Heap.get?_push_size _ rfl
  have f4 : (hz5 s.heap x t b).get? (hz3 s.heap x t b).objs.size = some _ := up1 (Heap.get?_push_size _ rfl)
  have f3 : (hz5 s.heap x t b).get? (hz2 s.heap x t b).objs.size = some _ := up1 (up1 (Heap.get?_push_size _ rfl))
  have f2 : (hz5 s.heap x t b).get? (hz1 s.heap x t).objs.size = some _ := up1 (up1 (up1 (Heap.get?_push_size _ rfl)))
  have f1 : (hz5 s.heap x t b).get? s.heap.objs.size = some _ := up1 (up1 (up1 (up1 (Heap.get?_push_size _ rfl))))
  show _ ∧ _
  rw [e2, e3, e4] at f5; rw [e1, e2] at f3; rw [e3] at f4; rw [e1] at f2; rw [e4]
  exact ⟨⟨_, f5, rfl⟩, h _ ⟨f5, f3, ⟨_, _, f4⟩, ⟨_, f1, rfl, rfl⟩, ⟨_, f2, rfl, rfl⟩⟩ fun c o q => up1 (up1 (up1 (up1 (up1 q))))⟩
def iZipS (K : PySem.W.Frag) (ta : TA) : TI := fun σ H R => ta σ H fun vs H1 => ∃ x b ys, vs = [.str x, .ref b] ∧ x.cps.all (· < 128) = true ∧ SqL K H1 b ys ∧ R (ItZ K x b) H1
theorem pi_zipS {X : Cx} {e e2 : Expr} {ta : TA} {p pos tpos : Pos} {elts : List Expr} {kk : Nat} (hg : Gl X "zip") (hm : X.mg "zip" = none) (ha : PA X [e, e2] ta)
    (hs : starEach [e, e2] X.env = (false, eval e X.env) :: starEach [e2] X.env := by rfl) (hpl : (backTo pos (starEach [e2] X.env)).any (·.1) = false := by rfl) : PI X (.Tuple elts kk tpos) (.Call (.Name "zip" p) [e, e2] [] pos) (iZipS X.K ta) := by
  refine ⟨fun pins s σ H R I h => ?_⟩
  refine Call_ (ld_blt I hg hm PyProof.Rows.boot_zip (PyProof.Rows.callWith_type1 (thn (ha.run pos pins s σ H _ I h) fun us s1 ⟨vs, H1, I1, r1, q1⟩ => ?_) hs hpl))
  obtain ⟨x, b, ys, ev, hx, hqy, q⟩ := q1
  subst ev
  cases r1 with
  | cons r rr =>
    cases rr with
    | cons r' rr =>
      cases rr
      obtain ⟨t, rfl⟩ := r
      cases r'
      obtain ⟨its, rv, p1, _⟩ := I1.list hqy
      refine call_new hx p1.isList fun h' st kp => wpAny_pyIter_zip st.zp ?_
      refine ⟨s1.heap.objs.size + 4, chainZ s1.heap.objs.size, _, _, H1, rfl, I1.kept (t' := s1.toks) kp, turnZ (t := t) (x := x) (b := b) (n := s1.heap.objs.size) p1.lt, st, fun c hc => ?_, q⟩
      have le : s1.heap.objs.size ≤ c := by
        simp only [chainZ, List.mem_cons, List.not_mem_nil, or_false] at hc
        rcases hc with rfl | rfl | rfl | rfl | rfl
        · exact Nat.le_add_right _ _
        · exact Nat.le_add_right _ _
        · exact Nat.le_add_right _ _
        · exact Nat.le_refl _
        · exact Nat.le_add_right _ _
      exact I1.fpOk le (I1.hok.fresh le)
end ZG
namespace DL
open PySem PySem.Spec PyProof.Rows L2
variable {K : PySem.W.Frag} {G1 : Hp}
def zsD : List Nat → List D → List D
  | c :: cs, d :: ds => .tup [.str ⟨#[c]⟩, d] :: zsD cs ds
  | _, _ => []
theorem zsD_get : ∀ (cs : List Nat) (ds : List D) (i : Nat) (d : D), (zsD cs ds)[i]? = some d → ∃ c x, cs[i]? = some c ∧ ds[i]? = some x ∧ d = .tup [.str ⟨#[c]⟩, x]
  | [], _, i, d, h => by simp [zsD] at h
  | c :: cs, [], i, d, h => by simp [zsD] at h
  | c :: cs, x :: ds, 0, d, h => ⟨c, x, rfl, rfl, (Option.some.inj h).symm⟩
  | c :: cs, x :: ds, i + 1, d, h => by
    obtain ⟨c', x', h1, h2, h3⟩ := zsD_get cs ds i d (by simpa [zsD] using h)
    exact ⟨c', x', by simpa using h1, by simpa using h2, h3⟩
theorem zsD_len : ∀ (cs : List Nat) (ds : List D), (zsD cs ds).length = min cs.length ds.length
  | [], ds => by simp [zsD]
  | c :: cs, [] => by simp [zsD]
  | c :: cs, d :: ds => by simp [zsD, zsD_len cs ds] <;> omega
theorem itOk_zs {x : Str} {b : Addr} {ds : List D} {ys : List V} (h : SqL K G1 b ys) (hr : RpDs K G1 ds ys) : ItOk K G1 (ZG.ItZ K x b) (zsD x.cps.toList ds) where
  go := fun i H s hi => by
    rw [zsD_len] at hi
    have l1 : i < x.cps.size := by
      have : x.cps.toList.length = x.cps.size := Array.length_toList
      omega
    have l2 : i < ys.length := by rw [hr.len]; omega
    exact ⟨l1, ys, ys[i], s.seq h, List.getElem?_eq_getElem _⟩
  stop := fun H s => by
    refine ⟨⟨ys, s.seq h⟩, ?_⟩
    rw [zsD_len]
    have : x.cps.toList.length = x.cps.size := Array.length_toList
    by_cases c : x.cps.size ≤ ds.length
    · left; omega
    · right; exact ⟨ys, s.seq h, by rw [hr.len]; omega⟩
  yld := fun i H v H' d s hd y => by
    obtain ⟨tt, c, y, rfl, hn, e, hc, hy⟩ := y
    obtain ⟨c', x', h1, h2, h3⟩ := zsD_get _ _ _ _ hd
    subst h3
    obtain ⟨w, h4, h5⟩ := hr.get h2
    have hw := hy ys (s.seq h)
    rw [h4] at hw
    cases hw
    have ec : c' = c := by
      have : x.cps.toList[i]? = some c := by rw [Array.getElem?_toList]; try exact hc
      rw [h1] at this
      exact Option.some.inj this
    subst ec
    exact .inr ⟨tt, _, [.str ⟨#[c']⟩, x'], hn, e, rfl, rfl, _, _, rfl, rfl, _, [], rfl, h5, rfl⟩
def iZpS (f : AF) : IF := fun env => (f env).bind fun r => match r.1 with
  | [.p (.str s), .p (.lst ds)] => if s.cps.toList.all (fun c => decide (c < 128)) = true then some (zsD s.cps.toList ds, r.2) else none
  | _ => none
theorem di_zipS {X : Cx} {e e2 : Expr} {ta : TA} {fa : AF} {p pos tpos : Pos} {elts : List Expr} {kk : Nat} (hg : Gl X "zip") (hm : X.mg "zip" = none) (h : DA X [e, e2] ta fa) (hs : starEach [e, e2] X.env = (false, eval e X.env) :: starEach [e2] X.env := by rfl) (hpl : (backTo pos (starEach [e2] X.env)).any (·.1) = false := by rfl) :
    DI X (.Tuple elts kk tpos) (.Call (.Name "zip" p) [e, e2] [] pos) (ZG.iZipS X.K ta) (iZpS fa) := by
  refine ⟨ZG.pi_zipS hg hm h.pa hs hpl, ?_⟩
  intro G0 H0 W H ts vs env σ ds env' S g R r
  obtain ⟨⟨us, e1⟩, g1, g2⟩ := obind g
  refine h.ok _ _ _ _ _ _ _ _ _ _ S g1 _ fun ws H1 s1 hl S1 => ?_
  dsimp only at g2
  split at g2
  · rename_i x d2
    split at g2
    · rename_i hx
      cases g2
      match ws, hl with
      | [w1, w2], _ =>
        have ex : w1 = .str x := S1.top
        subst ex
        obtain ⟨G1, gst, sG, ⟨b, ys, r1, r2, r3⟩, S2⟩ := OkS.fixTop (show OkS X.K G0 H0 W H1 (.p (.lst d2) :: ts) (w2 :: vs) _ σ from S1.pop)
        refine ⟨x, b, ys, by rw [r1], ?_, sG.seq (.inl r2), r _ _ G1 s1 gst (itOk_zs (.inl r2) r3) S2⟩
        rw [← Array.all_toList]; exact hx
    · cases g2
  · cases g2
def kZpS (r : List T × Env) : Option (List D × Env) := match r.1 with
  | [.p (.str s), .p (.lst ds)] => if s.cps.toList.all (fun c => decide (c < 128)) = true then some (zsD s.cps.toList ds, r.2) else none
  | _ => none
theorem iZpS_q {f : AF} {env : Env} : iZpS f env = (f env).bind kZpS := id rfl
theorem kZpS_q {l : List Nat} {ds : List D} {e : Env} : kZpS ([.p (.str (sg l)), .p (.lst ds)], e) = if l.all (fun c => decide (c < 128)) = true then some (zsD l ds, e) else none := id rfl
end DL

set_option Elab.async false
set_option linter.all false
set_option maxRecDepth 100000
set_option maxHeartbeats 1000000
/-! Places inside trees: nested lists, dicts, objects; what is written there. -/
namespace DL
open PySem PySem.Spec PyProof.Rows L2
inductive Stp where
  | key (k : Key) | tky (k : List Key) | ix (n : Nat) | it (n : Nat) | fld (f : Str)
def unb : T → T
  | .box _ t => t
  | t => t
def reb : T → T → T
  | .box a _, u => .box a u
  | _, u => u
/-- the first one of a key -/
def valT {κ : Type} [DecidableEq κ] : List (κ × T) → κ → Option T
  | [], _ => none
  | (j, t) :: r, k => if j = k then some t else valT r k
def setT {κ : Type} [DecidableEq κ] : List (κ × T) → κ → T → List (κ × T)
  | [], _, _ => []
  | (j, t) :: r, k, u => if j = k then (j, u) :: r else (j, t) :: setT r k u
def stepT : Stp → T → Option T
  | .key k, .dic kvs => valT kvs k
  | .tky k, .dit kvs => valT kvs k
  | .ix n, .lst ts => ts[n]?
  | .it n, .tup ts => ts[n]?
  | .fld f, .obj _ fs => valT fs f
  | _, _ => none
def setS : Stp → T → T → T
  | .key k, .dic kvs, u => .dic (setT kvs k u)
  | .tky k, .dit kvs, u => .dit (setT kvs k u)
  | .ix n, .lst ts, u => .lst (ts.set n u)
  | .it n, .tup ts, u => .tup (ts.set n u)
  | .fld f, .obj n fs, u => .obj n (setT fs f u)
  | _, t, _ => t
def getP : List Stp → T → Option T
  | [], t => some t
  | s :: P, t => (stepT s (unb t)).bind (getP P)
def setP : List Stp → T → T → T
  | [], _, u => u
  | s :: P, t, u => match stepT s (unb t) with
    | some c => reb t (setS s (unb t) (setP P c u))
    | none => t
def ChS (H : Hp) : Stp → V → V → Prop
  | .key k, v, w => ∃ a ws, v = .ref a ∧ H a = some (.dK ws) ∧ valV ws k = some w
  | .tky k, v, w => ∃ a ws, v = .ref a ∧ H a = some (.dT ws) ∧ valV ws k = some w
  | .ix n, v, w => ∃ a xs, v = .ref a ∧ H a = some (.lst xs) ∧ xs[n]? = some w
  | .it n, v, w => ∃ a xs, v = .ref a ∧ H a = some (.tup xs) ∧ xs[n]? = some w
  | .fld f, v, w => ∃ a C dx fs, v = .ref a ∧ H a = some (.ins C dx fs) ∧ fs.lookup f = some w
/-- the way from one thing to another in the heap -/
def Ch (H : Hp) : List Stp → V → V → Prop
  | [], v, w => w = v
  | s :: P, v, w => ∃ u, ChS H s v u ∧ Ch H P u w
theorem ChS.det {H : Hp} {s : Stp} {v w w' : V} (h : ChS H s v w) (h' : ChS H s v w') : w = w' := by
  cases s with
  | key k =>
    obtain ⟨a, ws, rfl, h2, h3⟩ := h
    obtain ⟨a', ws', e, h2', h3'⟩ := h'
    cases e
    rw [h2] at h2'; cases h2'
    rw [h3] at h3'; exact Option.some.inj h3'
  | tky k =>
    obtain ⟨a, ws, rfl, h2, h3⟩ := h
    obtain ⟨a', ws', e, h2', h3'⟩ := h'
    cases e
    rw [h2] at h2'; cases h2'
    rw [h3] at h3'; exact Option.some.inj h3'
  | ix n =>
    obtain ⟨a, ws, rfl, h2, h3⟩ := h
    obtain ⟨a', ws', e, h2', h3'⟩ := h'
    cases e
    rw [h2] at h2'; cases h2'
    rw [h3] at h3'; exact Option.some.inj h3'
  | it n =>
    obtain ⟨a, ws, rfl, h2, h3⟩ := h
    obtain ⟨a', ws', e, h2', h3'⟩ := h'
    cases e
    rw [h2] at h2'; cases h2'
    rw [h3] at h3'; exact Option.some.inj h3'
  | fld f =>
    obtain ⟨a, C, dx, ws, rfl, h2, h3⟩ := h
    obtain ⟨a', C', dx', ws', e, h2', h3'⟩ := h'
    cases e
    rw [h2] at h2'; cases h2'
    rw [h3] at h3'; exact Option.some.inj h3'
theorem Ch.det {H : Hp} : ∀ {P : List Stp} {v w w' : V}, Ch H P v w → Ch H P v w' → w = w'
  | [], _, _, _, h, h' => h.trans h'.symm
  | s :: P, _, _, _, ⟨u, h1, h2⟩, ⟨u', h1', h2'⟩ => by
    have := h1.det h1'
    subst this
    exact Ch.det h2 h2'
theorem ChS.same {H H' : Hp} (e : Same H H') {s : Stp} {v w : V} (h : ChS H s v w) : ChS H' s v w := by
  cases s with
  | key k => obtain ⟨a, ws, h1, h2, h3⟩ := h; exact ⟨a, ws, h1, e _ _ h2, h3⟩
  | tky k => obtain ⟨a, ws, h1, h2, h3⟩ := h; exact ⟨a, ws, h1, e _ _ h2, h3⟩
  | ix k => obtain ⟨a, ws, h1, h2, h3⟩ := h; exact ⟨a, ws, h1, e _ _ h2, h3⟩
  | it k => obtain ⟨a, ws, h1, h2, h3⟩ := h; exact ⟨a, ws, h1, e _ _ h2, h3⟩
  | fld k => obtain ⟨a, C, dx, ws, h1, h2, h3⟩ := h; exact ⟨a, C, dx, ws, h1, e _ _ h2, h3⟩
theorem Ch.same {H H' : Hp} (e : Same H H') : ∀ {P : List Stp} {v w : V}, Ch H P v w → Ch H' P v w
  | [], _, _, h => h
  | s :: P, _, _, ⟨u, h1, h2⟩ => ⟨u, h1.same e, Ch.same e h2⟩
theorem Ch.app {H : Hp} : ∀ {P : List Stp} {v w x : V} {s : Stp}, Ch H P v w → ChS H s w x → Ch H (P ++ [s]) v x
  | [], _, _, _, _, h, h' => by rw [show _ = _ from h] at h'; exact ⟨_, h', rfl⟩
  | s :: P, _, _, _, _, ⟨u, h1, h2⟩, h' => ⟨u, h1, Ch.app h2 h'⟩
theorem getP_app : ∀ (P : List Stp) (s : Stp) (t : T), getP (P ++ [s]) t = (getP P t).bind fun u => stepT s (unb u)
  | [], s, t => by
    show (stepT s (unb t)).bind (getP []) = stepT s (unb t)
    cases stepT s (unb t) <;> rfl
  | p :: P, s, t => by
    show (stepT p (unb t)).bind (getP (P ++ [s])) = ((stepT p (unb t)).bind (getP P)).bind _
    cases stepT p (unb t) with
    | none => rfl
    | some c => exact getP_app P s c
section
variable {K : PySem.W.Frag} {G H : Hp}
theorem perm3 {α : Type} (a b c : List α) : (a ++ (b ++ c)).Perm (b ++ (a ++ c)) := perm_mid a b c
theorem RpTs.foc : ∀ {ts : List T} {vs : List V} {o : List Addr} {n : Nat} {u : T}, RpTs K G H ts vs o → ts[n]? = some u → ∃ w o1 o2, vs[n]? = some w ∧ Rp K G H u w o1 ∧ o.Perm (o1 ++ o2) ∧
    ∀ {G' H' : Hp} {u' : T} {o1' : List Addr}, Same G G' → (∀ a ∈ o2, H' a = H a) → Rp K G' H' u' w o1' → ∃ o', RpTs K G' H' (ts.set n u') vs o' ∧ o'.Perm (o1' ++ o2)
  | [], _, _, _, _, _, e => by simp at e
  | t :: ts, _, _, 0, u, ⟨v, r, o1, o2, h1, h2, h3, h4⟩, e => by
    simp at e; subst e; subst h1
    exact ⟨v, o1, o2, rfl, h2, by rw [h4], fun {G' H' u' o1'} sg k h => ⟨o1' ++ o2, ⟨v, r, o1', o2, rfl, h, h3.mono sg _ k, rfl⟩, .refl _⟩⟩
  | t :: ts, _, _, n + 1, u, ⟨v, r, o1, o2, h1, h2, h3, h4⟩, e => by
    subst h1
    obtain ⟨w, p1, p2, g1, g2, g3, g4⟩ := RpTs.foc (n := n) h3 (by simpa using e)
    refine ⟨w, p1, o1 ++ p2, by simpa using g1, g2, ?_, fun {G' H' u' o1'} sg k h => ?_⟩
    · rw [h4]; exact (List.Perm.append_left o1 g3).trans (perm_mid _ _ _)
    · obtain ⟨o', f1, f2⟩ := g4 sg (fun a ha => k a (by simp [ha])) h
      exact ⟨o1 ++ o', ⟨v, r, o1, o', rfl, h2.mono sg _ (fun a ha => k a (by simp [ha])), f1, rfl⟩, (List.Perm.append_left o1 f2).trans (perm_mid _ _ _)⟩
theorem RpTk.foc : ∀ {ts : List (Key × T)} {vs : List (Key × V)} {o : List Addr} {n : Key} {u : T}, RpTk K G H ts vs o → valT ts n = some u → ∃ w o1 o2, valV vs n = some w ∧ Rp K G H u w o1 ∧ o.Perm (o1 ++ o2) ∧
    ∀ {G' H' : Hp} {u' : T} {o1' : List Addr}, Same G G' → (∀ a ∈ o2, H' a = H a) → Rp K G' H' u' w o1' → ∃ o', RpTk K G' H' (setT ts n u') vs o' ∧ o'.Perm (o1' ++ o2)
  | [], _, _, _, _, _, e => by simp [valT] at e
  | (j, t) :: ts, _, _, n, u, ⟨v, r, o1, o2, h1, h2, h3, h4⟩, e => by
    subst h1
    by_cases c : j = n
    · rw [valT, if_pos c] at e; cases e
      refine ⟨v, o1, o2, valV_pos (by exact c), h2, by rw [h4], fun {G' H' u' o1'} sg k h => ⟨o1' ++ o2, ?_, .refl _⟩⟩
      rw [setT, if_pos c]
      exact ⟨v, r, o1', o2, rfl, h, h3.mono sg _ k, rfl⟩
    · rw [valT, if_neg c] at e
      obtain ⟨w, p1, p2, g1, g2, g3, g4⟩ := RpTk.foc h3 e
      refine ⟨w, p1, o1 ++ p2, (valV_neg (by exact c)).trans g1, g2, ?_, fun {G' H' u' o1'} sg k h => ?_⟩
      · rw [h4]; exact (List.Perm.append_left o1 g3).trans (perm_mid _ _ _)
      · obtain ⟨o', f1, f2⟩ := g4 sg (fun a ha => k a (by simp [ha])) h
        rw [setT, if_neg c]
        exact ⟨o1 ++ o', ⟨v, r, o1, o', rfl, h2.mono sg _ (fun a ha => k a (by simp [ha])), f1, rfl⟩, (List.Perm.append_left o1 f2).trans (perm_mid _ _ _)⟩
theorem RpTt.foc : ∀ {ts : List (List Key × T)} {vs : List (List Key × V)} {o : List Addr} {n : List Key} {u : T}, RpTt K G H ts vs o → valT ts n = some u → ∃ w o1 o2, valV vs n = some w ∧ Rp K G H u w o1 ∧ o.Perm (o1 ++ o2) ∧
    ∀ {G' H' : Hp} {u' : T} {o1' : List Addr}, Same G G' → (∀ a ∈ o2, H' a = H a) → Rp K G' H' u' w o1' → ∃ o', RpTt K G' H' (setT ts n u') vs o' ∧ o'.Perm (o1' ++ o2)
  | [], _, _, _, _, _, e => by simp [valT] at e
  | (j, t) :: ts, _, _, n, u, ⟨v, r, o1, o2, h1, h2, h3, h4⟩, e => by
    subst h1
    by_cases c : j = n
    · rw [valT, if_pos c] at e; cases e
      refine ⟨v, o1, o2, valV_pos (by exact c), h2, by rw [h4], fun {G' H' u' o1'} sg k h => ⟨o1' ++ o2, ?_, .refl _⟩⟩
      rw [setT, if_pos c]
      exact ⟨v, r, o1', o2, rfl, h, h3.mono sg _ k, rfl⟩
    · rw [valT, if_neg c] at e
      obtain ⟨w, p1, p2, g1, g2, g3, g4⟩ := RpTt.foc h3 e
      refine ⟨w, p1, o1 ++ p2, (valV_neg (by exact c)).trans g1, g2, ?_, fun {G' H' u' o1'} sg k h => ?_⟩
      · rw [h4]; exact (List.Perm.append_left o1 g3).trans (perm_mid _ _ _)
      · obtain ⟨o', f1, f2⟩ := g4 sg (fun a ha => k a (by simp [ha])) h
        rw [setT, if_neg c]
        exact ⟨o1 ++ o', ⟨v, r, o1, o', rfl, h2.mono sg _ (fun a ha => k a (by simp [ha])), f1, rfl⟩, (List.Perm.append_left o1 f2).trans (perm_mid _ _ _)⟩
theorem lookup_cons (j n : Str) (v : V) (r : List (Str × V)) : List.lookup n ((j, v) :: r) = if j = n then some v else List.lookup n r := by
  rw [List.lookup_cons]
  by_cases c : j = n
  · subst c; simp
  · rw [if_neg c]
    have : (n == j) = false := by simpa using fun e => c e.symm
    rw [this]
theorem RpTf.foc : ∀ {ts : List (Str × T)} {vs : List (Str × V)} {o : List Addr} {n : Str} {u : T}, RpTf K G H ts vs o → valT ts n = some u → ∃ w o1 o2, vs.lookup n = some w ∧ Rp K G H u w o1 ∧ o.Perm (o1 ++ o2) ∧
    ∀ {G' H' : Hp} {u' : T} {o1' : List Addr}, Same G G' → (∀ a ∈ o2, H' a = H a) → Rp K G' H' u' w o1' → ∃ o', RpTf K G' H' (setT ts n u') vs o' ∧ o'.Perm (o1' ++ o2)
  | [], _, _, _, _, _, e => by simp [valT] at e
  | (j, t) :: ts, _, _, n, u, ⟨v, r, o1, o2, h1, h2, h3, h4⟩, e => by
    subst h1
    by_cases c : j = n
    · rw [valT, if_pos c] at e; cases e
      refine ⟨v, o1, o2, by rw [lookup_cons, if_pos c], h2, by rw [h4], fun {G' H' u' o1'} sg k h => ⟨o1' ++ o2, ?_, .refl _⟩⟩
      rw [setT, if_pos c]
      exact ⟨v, r, o1', o2, rfl, h, h3.mono sg _ k, rfl⟩
    · rw [valT, if_neg c] at e
      obtain ⟨w, p1, p2, g1, g2, g3, g4⟩ := RpTf.foc h3 e
      refine ⟨w, p1, o1 ++ p2, by rw [lookup_cons, if_neg c]; exact g1, g2, ?_, fun {G' H' u' o1'} sg k h => ?_⟩
      · rw [h4]; exact (List.Perm.append_left o1 g3).trans (perm_mid _ _ _)
      · obtain ⟨o', f1, f2⟩ := g4 sg (fun a ha => k a (by simp [ha])) h
        rw [setT, if_neg c]
        exact ⟨o1 ++ o', ⟨v, r, o1, o', rfl, h2.mono sg _ (fun a ha => k a (by simp [ha])), f1, rfl⟩, (List.Perm.append_left o1 f2).trans (perm_mid _ _ _)⟩
theorem Rp.unb {t : T} {v : V} {o : List Addr} (h : Rp K G H t v o) : Rp K G H (DL.unb t) v o := by
  cases t with
  | box a t => exact h.2
  | _ => exact h
theorem Rp.reb {G' H' : Hp} {t u : T} {v : V} {o o' : List Addr} (h : Rp K G H t v o) (h' : Rp K G' H' u v o') : Rp K G' H' (DL.reb t u) v o' := by
  cases t with
  | box a t => exact ⟨h.1, h'⟩
  | _ => exact h'
/-- one step down -/
theorem Rp.focS {s : Stp} {t u : T} {v : V} {o : List Addr} (sGH : Same G H) (e : stepT s t = some u) (h : Rp K G H t v o) : ∃ w o1 o2, ChS H s v w ∧ Rp K G H u w o1 ∧ o.Perm (o1 ++ o2) ∧
    ∀ {G' H' : Hp} {u' : T} {o1' : List Addr}, Same G G' → (∀ a ∈ o2, H' a = H a) → Rp K G' H' u' w o1' → ∃ o', Rp K G' H' (setS s t u') v o' ∧ o'.Perm (o1' ++ o2) := by
  unfold stepT at e
  split at e
  · obtain ⟨a, ws, o', h1, h2, h3, h4⟩ := h
    obtain ⟨w, o1, o2, g1, g2, g3, g4⟩ := h3.foc e
    refine ⟨w, o1, a :: o2, ⟨a, ws, h1, h2, g1⟩, g2, ?_, fun {G' H' u' o1'} sg k hh => ?_⟩
    · rw [h4]; exact (List.Perm.cons a g3).trans List.perm_middle.symm
    · obtain ⟨o'', f1, f2⟩ := g4 sg (fun b hb => k b (by simp [hb])) hh
      exact ⟨a :: o'', ⟨a, ws, o'', h1, by rw [k a (by simp)]; exact h2, f1, rfl⟩, (List.Perm.cons a f2).trans List.perm_middle.symm⟩
  · obtain ⟨a, ws, o', h1, h2, h3, h4⟩ := h
    obtain ⟨w, o1, o2, g1, g2, g3, g4⟩ := h3.foc e
    refine ⟨w, o1, a :: o2, ⟨a, ws, h1, h2, g1⟩, g2, ?_, fun {G' H' u' o1'} sg k hh => ?_⟩
    · rw [h4]; exact (List.Perm.cons a g3).trans List.perm_middle.symm
    · obtain ⟨o'', f1, f2⟩ := g4 sg (fun b hb => k b (by simp [hb])) hh
      exact ⟨a :: o'', ⟨a, ws, o'', h1, by rw [k a (by simp)]; exact h2, f1, rfl⟩, (List.Perm.cons a f2).trans List.perm_middle.symm⟩
  · obtain ⟨a, ws, o', h1, h2, h3, h4⟩ := h
    obtain ⟨w, o1, o2, g1, g2, g3, g4⟩ := h3.foc e
    refine ⟨w, o1, a :: o2, ⟨a, ws, h1, h2, g1⟩, g2, ?_, fun {G' H' u' o1'} sg k hh => ?_⟩
    · rw [h4]; exact (List.Perm.cons a g3).trans List.perm_middle.symm
    · obtain ⟨o'', f1, f2⟩ := g4 sg (fun b hb => k b (by simp [hb])) hh
      exact ⟨a :: o'', ⟨a, ws, o'', h1, by rw [k a (by simp)]; exact h2, f1, rfl⟩, (List.Perm.cons a f2).trans List.perm_middle.symm⟩
  · obtain ⟨a, ws, h1, h2, h3⟩ := h
    obtain ⟨w, o1, o2, g1, g2, g3, g4⟩ := h3.foc e
    refine ⟨w, o1, o2, ⟨a, ws, h1, ?_, g1⟩, g2, g3, fun {G' H' u' o1'} sg k hh => ?_⟩
    · exact sGH _ _ h2
    · obtain ⟨o'', f1, f2⟩ := g4 sg k hh
      exact ⟨o'', ⟨a, ws, h1, sg _ _ h2, f1⟩, f2⟩
  · obtain ⟨a, C, dx, ws, o', h1, h0, h2, h3, h4⟩ := h
    obtain ⟨w, o1, o2, g1, g2, g3, g4⟩ := h3.foc e
    refine ⟨w, o1, a :: o2, ⟨a, C, dx, ws, h1, h2, g1⟩, g2, ?_, fun {G' H' u' o1'} sg k hh => ?_⟩
    · rw [h4]; exact (List.Perm.cons a g3).trans List.perm_middle.symm
    · obtain ⟨o'', f1, f2⟩ := g4 sg (fun b hb => k b (by simp [hb])) hh
      exact ⟨a :: o'', ⟨a, C, dx, ws, o'', h1, h0, by rw [k a (by simp)]; exact h2, f1, rfl⟩, (List.Perm.cons a f2).trans List.perm_middle.symm⟩
  · cases e
theorem Rp.foc (sGH : Same G H) : ∀ {P : List Stp} {t u : T} {v : V} {o : List Addr}, getP P t = some u → Rp K G H t v o → ∃ w o1 o2, Ch H P v w ∧ Rp K G H u w o1 ∧ o.Perm (o1 ++ o2) ∧
    ∀ {G' H' : Hp} {u' : T} {o1' : List Addr}, Same G G' → (∀ a ∈ o2, H' a = H a) → Rp K G' H' u' w o1' → ∃ o', Rp K G' H' (setP P t u') v o' ∧ o'.Perm (o1' ++ o2)
  | [], t, u, v, o, e, h => by
    cases e
    exact ⟨v, o, [], rfl, h, by simp, fun {G' H' u' o1'} sg k hh => ⟨o1', hh, by simp⟩⟩
  | s :: P, t, u, v, o, e, h => by
    obtain ⟨c, e1, e2⟩ := obind (show (stepT s (DL.unb t)).bind (getP P) = some u from e)
    obtain ⟨x, o1, o2, g1, g2, g3, g4⟩ := h.unb.focS sGH e1
    obtain ⟨w, p1, p2, f1, f2, f3, f4⟩ := Rp.foc sGH e2 g2
    refine ⟨w, p1, p2 ++ o2, ⟨x, g1, f1⟩, f2, ?_, fun {G' H' u' o1'} sg k hh => ?_⟩
    · rw [← List.append_assoc]; exact g3.trans (List.Perm.append_right _ f3)
    · obtain ⟨o', q1, q2⟩ := f4 sg (fun b hb => k b (by simp [hb])) hh
      obtain ⟨o'', q3, q4⟩ := g4 sg (fun b hb => k b (by simp [hb])) q1
      refine ⟨o'', ?_, ?_⟩
      · show Rp K G' H' (match stepT s (DL.unb t) with | some c => DL.reb t (setS s (DL.unb t) (setP P c u')) | none => t) v o''
        rw [e1]
        exact h.reb q3
      · rw [← List.append_assoc]; exact q4.trans (List.Perm.append_right _ q2)
/-- a place written -/
theorem OkS.wr {G0 H0 : Hp} {W : List (T × V)} {ts es : List T} {vs ws : List V} {env : Env} {σ : St} {i : Nat} {P : List Stp} {t u : T} {v w : V} (S : OkS K G0 H0 W H (es ++ ts) (ws ++ vs) env σ) (hw : ws.length = es.length) (he : env[i]? = some (some t)) (hp : getP P t = some u)
    (hv : σ[i]? = some (some v)) (hc : Ch H P v w) : ∃ (G : Hp) (o1 o2 : List Addr), Rp K G H u w o1 ∧ RpTs K G H es ws o2 ∧ (o1 ++ o2).Nodup ∧ Same G H ∧ (∀ b ∈ o1 ++ o2, G b = none ∧ H0 b = none) ∧
    ∀ (a : Addr) (cell : HO) (u' : T) (es' : List T) (ws' : List V) (o3 o4 rest : List Addr), a ∈ o1 → Rp K G (upd H a cell) u' w o3 → RpTs K G (upd H a cell) es' ws' o4 → (o1 ++ o2).Perm (o3 ++ o4 ++ rest) → OkS K G0 H0 [] (upd H a cell) (es' ++ ts) (ws' ++ vs) (env.set i (some (setP P t u'))) σ := by
  obtain ⟨G, ot, oe, s⟩ := S
  obtain ⟨o2, o5, k1, k2, k3⟩ := s.tmp.split hw
  obtain ⟨v', oA, oB, e1, e2, e3, e4⟩ := s.env.take he
  rw [hv] at e1
  cases e1
  obtain ⟨w', o1, o6, f1, f2, f3, f4⟩ := e2.foc s.gh hp
  have := f1.det hc
  subst this
  have pm : (ot ++ oe).Perm ((o1 ++ o2) ++ (o6 ++ (o5 ++ oB))) := by
    rw [k3]
    have q1 : ((o2 ++ o5) ++ oe).Perm ((o2 ++ o5) ++ ((o1 ++ o6) ++ oB)) := List.Perm.append_left _ (e4.trans (List.Perm.append_right _ f3))
    refine q1.trans ?_
    have q2 : ((o2 ++ o5) ++ ((o1 ++ o6) ++ oB)).Perm (o1 ++ ((o2 ++ o5) ++ (o6 ++ oB))) := by
      rw [List.append_assoc o1]
      exact perm_mid _ _ _
    refine q2.trans ?_
    rw [List.append_assoc o1, List.append_assoc o2]
    exact List.Perm.append_left _ (List.Perm.append_left _ (perm_mid _ _ _))
  have nd := pm.nodup_iff.mp s.nd
  have fr : ∀ b ∈ (o1 ++ o2) ++ (o6 ++ (o5 ++ oB)), G b = none ∧ H0 b = none := fun b hb => s.fr b (pm.mem_iff.mpr hb)
  refine ⟨G, o1, o2, f2, k1, (List.nodup_append.mp nd).1, s.gh, fun b hb => fr b (List.mem_append_left _ hb), fun a cell u' es' ws' o3 o4 rest ha r1 r2 pm2 => ?_⟩
  have ha' : a ∈ o1 ++ o2 := List.mem_append_left _ ha
  have nea : ∀ b ∈ o6 ++ (o5 ++ oB), b ≠ a := fun b hb e => (List.nodup_append.mp nd).2.2 a ha' b hb e.symm
  have kp : ∀ b ∈ o6 ++ (o5 ++ oB), upd H a cell b = H b := fun b hb => upd_ne (nea b hb)
  obtain ⟨o7, q1, q2⟩ := f4 (Same.refl G) (fun b hb => kp b (by simp [hb])) r1
  have e3' := e3.mono (Same.refl G) _ (fun b hb => kp b (by simp [hb]))
  have hl : i < env.length := (List.getElem?_eq_some_iff.mp he).1
  obtain ⟨o8, g1, g2⟩ := e3'.put (i := i) (by simpa using hl) (fun x z => by rw [List.getElem?_set_self hl] at z; cases z) q1
  rw [List.set_set, set_back hv] at g1
  have t2 := k2.mono (Same.refl G) _ (fun b hb => kp b (by simp [hb]))
  have pm3 : ((o1 ++ o2) ++ (o6 ++ (o5 ++ oB))).Perm (((o4 ++ o5) ++ o8) ++ rest) := by
    refine (List.Perm.append_right _ pm2).trans ?_
    have a1 : o8.Perm (o3 ++ (o6 ++ oB)) := g2.trans (by rw [← List.append_assoc]; exact List.Perm.append_right _ q2)
    have a2 : (((o4 ++ o5) ++ o8) ++ rest).Perm (((o4 ++ o5) ++ (o3 ++ (o6 ++ oB))) ++ rest) := List.Perm.append_right _ (List.Perm.append_left _ a1)
    refine List.Perm.trans ?_ a2.symm
    have cnt : ∀ x, List.count x (o3 ++ o4 ++ rest ++ (o6 ++ (o5 ++ oB))) = List.count x (o4 ++ o5 ++ (o3 ++ (o6 ++ oB)) ++ rest) := fun x => by
      simp only [List.count_append]; omega
    exact List.perm_iff_count.mpr cnt
  have nd2 := pm3.nodup_iff.mp nd
  have sub : ∀ b ∈ (o4 ++ o5) ++ o8, b ∈ (o1 ++ o2) ++ (o6 ++ (o5 ++ oB)) := fun b hb => pm3.mem_iff.mpr (List.mem_append_left _ hb)
  refine ⟨G, o4 ++ o5, o8, r2.append t2, g1, (List.nodup_append.mp nd2).1, fun b hb => fr b (sub b hb), s.g0, fun b x e => ?_, fun b x e => ?_, s.nw, fun q hq => by cases hq⟩
  · have : b ≠ a := fun z => by subst z; rw [(fr b (List.mem_append_left _ ha')).1] at e; cases e
    rw [upd_ne this]; exact s.gh b x e
  · have : b ≠ a := fun z => by subst z; rw [(fr b (List.mem_append_left _ ha')).2] at e; cases e
    rw [upd_ne this]; exact s.h0 b x e
/-- a place looked at -/
theorem OkS.at' {G0 H0 : Hp} {W : List (T × V)} {ts : List T} {vs : List V} {env : Env} {σ : St} {i : Nat} {P : List Stp} {t u : T} {v w : V} (S : OkS K G0 H0 W H ts vs env σ) (he : env[i]? = some (some t)) (hp : getP P t = some u)
    (hv : σ[i]? = some (some v)) (hc : Ch H P v w) : ∃ (G : Hp) (o1 : List Addr), Rp K G H u w o1 ∧ Same G H := by
  obtain ⟨G, o1, o2, h1, _, _, h2, _⟩ := OkS.wr (es := []) (ws := []) S rfl he hp hv hc
  exact ⟨G, o1, h1, h2⟩
end
/-! ### places by expressions -/
abbrev PF := Env → Option (List Stp × Env)
def EvP (K : PySem.W.Frag) (te : TE) (i : Nat) (f : PF) : Prop := ∀ (G0 H0 : Hp) (W : List (T × V)) (H : Hp) (ts : List T) (vs : List V) (env : Env) (σ : St) (P : List Stp) (env' : Env), OkS K G0 H0 W H ts vs env σ → f env = some (P, env') →
  ∀ Q : VK, (∀ v w H', Same H H' → OkS K G0 H0 W H' ts vs env' σ → σ[i]? = some (some v) → Ch H' P v w → Q w H') → te σ H Q
structure DP (X : Cx) (e : Expr) (te : TE) (i : Nat) (f : PF) : Prop where
  pe : PE X e te
  ok : EvP X.K te i f
/-- the thing at a place of a name's thing -/
def atP (env : Env) (i : Nat) (P : List Stp) : Option T := match env[i]? with
  | some (some t) => getP P t
  | _ => none
theorem atP_eq {env : Env} {i : Nat} {P : List Stp} {u : T} (h : atP env i P = some u) : ∃ t, env[i]? = some (some t) ∧ getP P t = some u := by
  unfold atP at h
  split at h
  · rename_i t e; exact ⟨t, e, h⟩
  · cases h
/-- .. written -/
def putP (env : Env) (i : Nat) (P : List Stp) (u : T) : Env := match env[i]? with
  | some (some t) => env.set i (some (setP P t u))
  | _ => env
theorem putP_eq {env : Env} {i : Nat} {P : List Stp} {t u : T} (h : env[i]? = some (some t)) : putP env i P u = env.set i (some (setP P t u)) := by
  unfold putP; rw [h]
def pNm (i : Nat) : PF := fun env => match env[i]? with
  | some (some _) => some ([], env)
  | _ => none
section
variable {X : Cx} {e o k : Expr} {te to tk : TE} {f fk : EF} {fo : PF} {i : Nat} {pos : Pos}
theorem dp_name (i : Nat) {x : Str} (hN : X.N[i]? = some x := by rfl) (hv : Vis X.env.scope x := by first | exact Or.inl rfl | exact Or.inr (Or.inl rfl) | exact Or.inr (Or.inr rfl)) (hd : (x == ("__debug__" : Str)) = false := by decide)
    (hcd : (x == ("__classdict__" : Str)) = false := by decide) : DP X (.Name x pos) (tVar i) i (pNm i) := by
  refine ⟨pe_var hN hv hd hcd, ?_⟩
  intro G0 H0 W H ts vs env σ P env' S g Q q
  unfold pNm at g
  split at g
  · rename_i t e
    cases g
    obtain ⟨v, hv1, S1⟩ := S.look e
    exact ⟨v, hv1, q v v H (Same.refl _) S hv1 rfl⟩
  · cases g
/-- o.f, o a place -/
def pFld (n f : Str) (i : Nat) (fo : PF) : PF := fun env => (fo env).bind fun r => (atP r.2 i r.1).bind fun t => match unb t with
  | .obj m fs => if m = n then (valT fs f).map fun _ => (r.1 ++ [.fld f], r.2) else none
  | _ => none
/-- what is asked of a class for an attribute -/
def Att (K : PySem.W.Frag) (n f : Str) : Prop := ∀ C, ClsN K n C → Cls K C ∧ NoAttr K C f
theorem dp_fld {n f : Str} (hA : Att X.K n f) (h : DP X o to i fo) (hb : attributeBase o f X.env (eval o X.env) = eval o X.env := by rfl) : DP X (.Attribute o f pos) (tFld X.K to f) i (pFld n f i fo) := by
  refine ⟨pe_fld h.pe hb, ?_⟩
  intro G0 H0 W H ts vs env σ P env' S g Q q
  obtain ⟨⟨P1, e1⟩, g1, g2⟩ := obind g
  obtain ⟨t, g3, g4⟩ := obind g2
  obtain ⟨t0, g5, g6⟩ := atP_eq g3
  dsimp only at g4
  split at g4
  · rename_i m fs hu
    split at g4
    · rename_i hm
      subst hm
      obtain ⟨u, g7, g8⟩ := omap g4
      cases g8
      refine h.ok _ _ _ _ _ _ _ _ _ _ S g1 _ fun v w H1 s1 S1 hv hc => ?_
      obtain ⟨G, o1, r, sG⟩ := S1.at' g5 g6 hv hc
      have r := r.unb
      rw [hu] at r
      obtain ⟨a, C, dx, ws, o', h1, h0, h2, h3, h4⟩ := r
      obtain ⟨x, p1, p2, k1, _⟩ := h3.foc g7
      obtain ⟨c1, c2⟩ := hA C h0
      exact ⟨a, C, dx, ws, x, h1, h2, c1, c2, k1, q v x H1 s1 S1 hv (hc.app ⟨a, C, dx, ws, h1, h2, k1⟩)⟩
    · cases g4
  · cases g4
/-- o[k], o a place of a dict -/
def pKey (i : Nat) (fo : PF) (fk : EF) : PF := fun env => (fo env).bind fun r => (fk r.2).bind fun s => (keyT s.1).bind fun k => (atP s.2 i r.1).bind fun t => match unb t with
  | .dic kvs => (valT kvs k).map fun _ => (r.1 ++ [.key k], s.2)
  | _ => none
theorem dp_key (hu : X.A.units + 1 < cLine) (h : DP X o to i fo) (hk : DT X k tk fk) (hs : NoSl k := by exact fun _ _ => rfl) : DP X (.Subscript o k pos) (tDGet to tk) i (pKey i fo fk) := by
  refine ⟨pe_dget hu h.pe hk.pe hs, ?_⟩
  intro G0 H0 W H ts vs env σ P env' S g Q q
  obtain ⟨⟨P1, e1⟩, g1, g2⟩ := obind g
  obtain ⟨⟨z, e2⟩, g3, g4⟩ := obind g2
  obtain ⟨kk, g5, g6⟩ := obind g4
  obtain ⟨t, g7, g8⟩ := obind g6
  obtain ⟨t0, g9, g10⟩ := atP_eq g7
  dsimp only at g8
  split at g8
  · rename_i kvs hun
    obtain ⟨u, g11, g12⟩ := omap g8
    cases g12
    cases z with
    | p kd =>
      refine h.ok _ _ _ _ _ _ _ _ _ _ S g1 _ fun v w H1 s1 S1 hv hc => ?_
      refine hk.ok _ _ _ _ _ _ _ _ _ _ S1 g3 _ fun y H2 s2 S2 => ?_
      have ey : y = L2.kV kk := keyD_rp (show keyD kd = some kk from g5) S2.top
      have hc2 := hc.same s2
      obtain ⟨G, o1, r, sG⟩ := S2.pop.at' g9 g10 hv hc2
      have r := r.unb
      rw [hun] at r
      obtain ⟨a, ws, o', h1, h2, h3, h4⟩ := r
      obtain ⟨x, p1, p2, k1, _⟩ := h3.foc g11
      exact ⟨a, x, h1, by rw [ey, ← k1]; exact DGet.k h2, q v x H2 (s1.trans s2) S2.pop hv (hc2.app ⟨a, ws, h1, h2, k1⟩)⟩
    | _ => cases g5
  · cases g8
/-- o[n], o a place of a list or a tuple -/
def pIx (i : Nat) (fo : PF) (fk : EF) : PF := fun env => (fo env).bind fun r => (fk r.2).bind fun s => match s.1 with
  | .p (.int z) => (atP s.2 i r.1).bind fun t => match unb t with
    | .lst ts => (ixN ts.length z).bind fun j => (ts[j]?).map fun _ => (r.1 ++ [.ix j], s.2)
    | .tup ts => (ixN ts.length z).bind fun j => (ts[j]?).map fun _ => (r.1 ++ [.it j], s.2)
    | _ => none
  | _ => none
theorem dp_ix (h : DP X o to i fo) (hk : DT X k tk fk) (hs : PlainIx k := by exact fun _ _ => rfl) : DP X (.Subscript o k pos) (tOp (rIx X.K) to tk) i (pIx i fo fk) := by
  refine ⟨pe_ix ix_seq h.pe hk.pe hs, ?_⟩
  intro G0 H0 W H ts vs env σ P env' S g Q q
  obtain ⟨⟨P1, e1⟩, g1, g2⟩ := obind g
  obtain ⟨⟨z, e2⟩, g3, g4⟩ := obind g2
  dsimp only at g4
  split at g4
  · rename_i zi
    obtain ⟨t, g7, g8⟩ := obind g4
    obtain ⟨t0, g9, g10⟩ := atP_eq g7
    refine h.ok _ _ _ _ _ _ _ _ _ _ S g1 _ fun v w H1 s1 S1 hv hc => ?_
    refine hk.ok _ _ _ _ _ _ _ _ _ _ S1 g3 _ fun y H2 s2 S2 => ?_
    have ey : y = .int zi := S2.top
    subst ey
    have hc2 := hc.same s2
    obtain ⟨G, o1, r, sG⟩ := S2.pop.at' g9 g10 hv hc2
    have r := r.unb
    split at g8
    · rename_i us hun
      rw [hun] at r
      obtain ⟨j, k1, k2⟩ := obind g8
      obtain ⟨u, k3, k4⟩ := omap k2
      cases k4
      obtain ⟨a, xs, o', h1, h2, h3, h4⟩ := r
      obtain ⟨x, p1, p2, f1, _⟩ := h3.foc k3
      exact .inl ⟨a, xs, zi, x, h1, rfl, .inl (.inl h2), atI_of k1 h3.len f1, q v x H2 (s1.trans s2) S2.pop hv (hc2.app ⟨a, xs, h1, h2, f1⟩)⟩
    · rename_i us hun
      rw [hun] at r
      obtain ⟨j, k1, k2⟩ := obind g8
      obtain ⟨u, k3, k4⟩ := omap k2
      cases k4
      obtain ⟨a, xs, h1, h2, h3⟩ := r
      obtain ⟨x, p1, p2, f1, _⟩ := h3.foc k3
      exact .inr (.inl ⟨a, xs, zi, x, h1, rfl, tup_seq sG h2, atI_of k1 h3.len f1, q v x H2 (s1.trans s2) S2.pop hv (hc2.app ⟨a, xs, h1, sG _ _ h2, f1⟩)⟩)
    · cases g8
  · cases g4
end
end DL

set_option Elab.async false
set_option linter.all false
set_option maxRecDepth 100000
set_option maxHeartbeats 1000000
/-! Views through attributes and dicts; statements at places; expressions that change what stands; calls that change what they are lent. -/
namespace DL
open PySem PySem.Spec PyProof.Rows L2
section
variable {K : PySem.W.Frag} {G0 H0 H : Hp} {W : List (T × V)} {ts : List T} {vs : List V} {env : Env} {σ : St}
/-- a view at a place -/
theorem OkS.viewAt {i : Nat} {P : List Stp} {u : T} {v w : V} (S : OkS K G0 H0 W H ts vs env σ) (hp : atP env i P = some u) (hv : σ[i]? = some (some v)) (hc : Ch H P v w) : OkS K G0 H0 ((u, w) :: W) H ts vs env σ := by
  obtain ⟨t, he, hp⟩ := atP_eq hp
  obtain ⟨G, ot, oe, s⟩ := S
  obtain ⟨v', oA, oB, e1, e2, e3, e4⟩ := s.env.take he
  rw [hv] at e1
  cases e1
  obtain ⟨w', o1, o6, f1, f2, f3, f4⟩ := e2.foc s.gh hp
  have := f1.det hc
  subst this
  exact ⟨G, ot, oe, s.tmp, s.env, s.nd, s.fr, s.g0, s.gh, s.h0, s.nw, fun q hq => by
    rcases List.mem_cons.mp hq with e | hq
    · subst e; exact ⟨o1, f2⟩
    · exact s.vw q hq⟩
/-- a view of a part of a view -/
theorem OkS.viewIn {t u : T} {v w : V} (S : OkS K G0 H0 W H ts vs env σ) (hq : (t, v) ∈ W) (h : ∀ (G : Hp) (o : List Addr), Same G H → Rp K G H t v o → ∃ o', Rp K G H u w o') : OkS K G0 H0 ((u, w) :: W) H ts vs env σ := by
  obtain ⟨G, ot, oe, s⟩ := S
  obtain ⟨o, r⟩ := s.vw _ hq
  obtain ⟨o', r'⟩ := h G o s.gh r
  exact ⟨G, ot, oe, s.tmp, s.env, s.nd, s.fr, s.g0, s.gh, s.h0, s.nw, fun q hq => by
    rcases List.mem_cons.mp hq with e | hq
    · subst e; exact ⟨o', r'⟩
    · exact s.vw q hq⟩
end
/-! ### attributes looked at -/
def valF (n f : Str) : T → Option T
  | .obj m fs => if m = n then valT fs f else none
  | .p (.obj m fs) => if m = n then ((fs.find? fun kv => decide (kv.1 = f)).map fun kv => T.p kv.2) else none
  | _ => none
theorem RpKf.foc {K : PySem.W.Frag} {G : Hp} : ∀ {fs : List (Str × D)} {ws : List (Str × V)} {f : Str} {kv : Str × D}, RpKf K G fs ws → (fs.find? fun kv => decide (kv.1 = f)) = some kv → ∃ w, ws.lookup f = some w ∧ RpD K G kv.2 w
  | [], _, _, _, _, e => by simp at e
  | (j, d) :: fs, _, f, kv, ⟨v, r, h1, h2, h3⟩, e => by
    subst h1
    by_cases c : j = f
    · rw [List.find?_cons_of_pos (by simpa using c)] at e
      cases e
      exact ⟨v, by rw [lookup_cons, if_pos c], h2⟩
    · rw [List.find?_cons_of_neg (by simpa using c)] at e
      obtain ⟨w, g1, g2⟩ := RpKf.foc h3 e
      exact ⟨w, by rw [lookup_cons, if_neg c]; exact g1, g2⟩
def eFl (n f : Str) (fo : EF) : EF := fun env => (fo env).bind fun r => (valF n f (unb r.1)).map fun u => (u, r.2)
section
variable {X : Cx} {e o k : Expr} {te to tk : TE} {f fk fo : EF} {i : Nat} {pos apos cpos : Pos}
theorem dv_fl {n a : Str} (hA : Att X.K n a) (h : DV X o to fo) (hb : attributeBase o a X.env (eval o X.env) = eval o X.env := by rfl) : DV X (.Attribute o a pos) (tFld X.K to a) (eFl n a fo) := by
  refine ⟨pe_fld h.pe hb, ?_⟩
  intro G0 H0 W H ts vs env σ t env' S g Q q
  obtain ⟨⟨y, e1⟩, g1, g2⟩ := obind g
  obtain ⟨u, g3, g4⟩ := omap g2
  cases g4
  refine h.ok _ _ _ _ _ _ _ _ _ _ S g1 _ fun v H1 s1 S1 => ?_
  have main : ∃ (ad C dx : Addr) (fs : List (Str × V)) (w : V), v = .ref ad ∧ H1 ad = some (.ins C dx fs) ∧ ClsN X.K n C ∧ fs.lookup a = some w ∧ ∀ (G : Hp) (o : List Addr), Same G H1 → Rp X.K G H1 y v o → ∃ o', Rp X.K G H1 t w o' := by
    obtain ⟨G, ot, oe, s⟩ := S1
    obtain ⟨oo, r⟩ : ∃ o, Rp X.K G H1 y v o := s.vw (y, v) (by simp)
    have r := r.unb
    have gv : valF n a (unb y) = some t := g3
    clear g3
    unfold valF at gv
    split at gv
    · rename_i m fs hy
      have hy : unb y = .obj m fs := hy
      split at gv
      · rename_i hm; subst hm
        rw [hy] at r
        obtain ⟨ad, C, dx, ws, o', h1, h0, h2, h3, h4⟩ := r
        obtain ⟨w, p1, p2, k1, k2, _⟩ := h3.foc gv
        refine ⟨ad, C, dx, ws, w, h1, h2, h0, k1, fun G' o2 sg r' => ?_⟩
        have r' := r'.unb
        rw [hy] at r'
        obtain ⟨ad', C', dx', ws', o'', h1', h0', h2', h3', h4'⟩ := r'
        rw [h1] at h1'; cases h1'
        rw [h2] at h2'; cases h2'
        obtain ⟨w', p1', p2', k1', k2', _⟩ := h3'.foc gv
        rw [k1] at k1'; cases k1'
        exact ⟨_, k2'⟩
      · cases gv
    · rename_i m fs hy
      have hy : unb y = .p (.obj m fs) := hy
      split at gv
      · rename_i hm; subst hm
        obtain ⟨kv, g5, g6⟩ := omap gv
        subst g6
        rw [hy] at r
        obtain ⟨⟨ad, C, dx, ws, h1, h0, h2, h3⟩, _⟩ := r
        obtain ⟨w, k1, k2⟩ := h3.foc g5
        refine ⟨ad, C, dx, ws, w, h1, s.gh _ _ h2, h0, k1, fun G' o2 sg r' => ?_⟩
        have r' := r'.unb
        rw [hy] at r'
        obtain ⟨⟨ad', C', dx', ws', h1', h0', h2', h3'⟩, _⟩ := r'
        rw [h1] at h1'; cases h1'
        have e1 := s.gh _ _ h2
        have e2 := sg _ _ h2'
        rw [e1] at e2; cases e2
        obtain ⟨w', k1', k2'⟩ := h3'.foc g5
        rw [k1] at k1'; cases k1'
        exact ⟨[], k2', rfl⟩
      · cases gv
    · cases gv
  obtain ⟨ad, C, dx, fs, w, h1, h2, h3, h4, h5⟩ := main
  obtain ⟨c1, c2⟩ := hA C h3
  refine ⟨ad, C, dx, fs, w, h1, h2, c1, c2, h4, q w H1 s1 ?_⟩
  have S2 := S1.viewIn (t := y) (v := v) (by simp) h5
  exact S2.views fun q hq => by
    rcases List.mem_cons.mp hq with e | hq
    · rw [e]; simp
    · exact List.mem_cons_of_mem _ (List.mem_cons_of_mem _ hq)
/-! ### d[k] looked at, d a dict of things -/
def valK (k : Key) : T → Option T
  | .dic kvs => valT kvs k
  | .p (.dic kvs) => (valD kvs k).map T.p
  | _ => none
def eDk (fo fk : EF) : EF := fun env => (fo env).bind fun r => (fk r.2).bind fun s => (keyT s.1).bind fun k => (valK k (unb r.1)).map fun u => (u, s.2)
theorem dv_dk (hu : X.A.units + 1 < cLine) (h : DV X o to fo) (hk : DT X k tk fk) (hs : NoSl k := by exact fun _ _ => rfl) : DV X (.Subscript o k pos) (tDGet to tk) (eDk fo fk) := by
  refine ⟨pe_dget hu h.pe hk.pe hs, ?_⟩
  intro G0 H0 W H ts vs env σ t env' S g Q q
  obtain ⟨⟨y, e1⟩, g1, g2⟩ := obind g
  obtain ⟨⟨z, e2⟩, g3, g4⟩ := obind g2
  obtain ⟨kk, g5, g6⟩ := obind g4
  obtain ⟨u, g7, g8⟩ := omap g6
  cases g8
  cases z with
  | p kd =>
    refine h.ok _ _ _ _ _ _ _ _ _ _ S g1 _ fun v H1 s1 S1 => ?_
    refine hk.ok _ _ _ _ _ _ _ _ _ _ S1 g3 _ fun w2 H2 s2 S2 => ?_
    have ew : w2 = L2.kV kk := keyD_rp (show keyD kd = some kk from g5) S2.top
    have S3 := S2.pop
    have main : ∃ (ad : Addr) (ws : List (Key × V)) (w : V), v = .ref ad ∧ Rd H2 ad (.dK ws) ∧ valV ws kk = some w ∧ ∀ (G : Hp) (o : List Addr), Same G H2 → Rp X.K G H2 y v o → ∃ o', Rp X.K G H2 t w o' := by
      obtain ⟨G, ot, oe, s⟩ := S3
      obtain ⟨oo, r⟩ : ∃ o, Rp X.K G H2 y v o := s.vw (y, v) (by simp)
      have r := r.unb
      have gv : valK kk (unb y) = some t := g7
      clear g7
      unfold valK at gv
      split at gv
      · rename_i kvs hy
        have hy : unb y = .dic kvs := hy
        rw [hy] at r
        obtain ⟨ad, ws, o', h1, h2, h3, h4⟩ := r
        obtain ⟨w, p1, p2, k1, k2, _⟩ := h3.foc gv
        refine ⟨ad, ws, w, h1, .inl h2, k1, fun G' o2 sg r' => ?_⟩
        have r' := r'.unb
        rw [hy] at r'
        obtain ⟨ad', ws', o'', h1', h2', h3', h4'⟩ := r'
        rw [h1] at h1'; cases h1'
        rw [h2] at h2'; cases h2'
        obtain ⟨w', p1', p2', k1', k2', _⟩ := h3'.foc gv
        rw [k1] at k1'; cases k1'
        exact ⟨_, k2'⟩
      · rename_i kvs hy
        have hy : unb y = .p (.dic kvs) := hy
        obtain ⟨d, g9, g10⟩ := omap gv
        subst g10
        rw [hy] at r
        obtain ⟨⟨ad, ws, h1, h2, h3⟩, _⟩ := r
        obtain ⟨w, k1, k2⟩ := (h3.val kk).2 d g9
        refine ⟨ad, ws, w, h1, Same.rd s.gh h2, k1, fun G' o2 sg r' => ?_⟩
        have r' := r'.unb
        rw [hy] at r'
        obtain ⟨⟨ad', ws', h1', h2', h3'⟩, _⟩ := r'
        rw [h1] at h1'; cases h1'
        have q3 : ws = ws' := by
          rcases Same.rd s.gh h2 with q1 | ⟨oo, q1⟩ <;> rcases Same.rd sg h2' with q2 | ⟨oo', q2⟩ <;> (rw [q1] at q2; first | (cases q2; done) | (cases q2; rfl))
        subst q3
        obtain ⟨w', k1', k2'⟩ := (h3'.val kk).2 d g9
        rw [k1] at k1'; cases k1'
        exact ⟨[], k2', rfl⟩
      · cases gv
    obtain ⟨ad, ws, w, h1, h2, h3, h4⟩ := main
    refine ⟨ad, w, h1, by rw [ew, ← h3]; exact .inl ⟨_, _, h2, rfl, rfl⟩, q w H2 (s1.trans s2) ?_⟩
    have S4 := S3.viewIn (t := y) (v := v) (by simp) h4
    exact S4.views fun q hq => by
      rcases List.mem_cons.mp hq with e | hq
      · rw [e]; simp
      · exact List.mem_cons_of_mem _ (List.mem_cons_of_mem _ hq)
  | _ => cases g5
end
end DL

set_option Elab.async false
set_option linter.all false
set_option maxRecDepth 100000
set_option maxHeartbeats 1000000
/-! Stores at places; expressions that change what stands; calls that are lent a thing. -/
namespace DL
open PySem PySem.Spec PyProof.Rows L2
/-! ### dicts and objects of things written -/
def putT {κ : Type} [DecidableEq κ] (kvs : List (κ × T)) (k : κ) (t : T) : List (κ × T) := if (kvs.any fun kv => decide (kv.1 = k)) = true then kvs.map (fun kv => if kv.1 = k then (kv.1, t) else kv) else kvs ++ [(k, t)]
def cntT {κ : Type} [DecidableEq κ] (kvs : List (κ × T)) (k : κ) : Nat := (kvs.filter fun kv => decide (kv.1 = k)).length
def isP : T → Bool
  | .p _ => true
  | _ => false
def okPut {κ : Type} [DecidableEq κ] (kvs : List (κ × T)) (k : κ) (t : T) : Bool := isP t || decide (cntT kvs k ≤ 1)
def dropT {κ : Type} [DecidableEq κ] (kvs : List (κ × T)) (k : κ) : List (κ × T) := kvs.filter fun kv => decide (kv.1 ≠ k)
def putFT (fs : List (Str × T)) (f : Str) (t : T) : List (Str × T) := match fs with
  | [] => [(f, t)]
  | (g, x) :: r => if g = f then (g, t) :: r else (g, x) :: putFT r f t
section
variable {K : PySem.W.Frag} {G H : Hp}
theorem RpTk.any (k : Key) : ∀ {kvs : List (Key × T)} {xs : List (Key × V)} {o : List Addr}, RpTk K G H kvs xs o → (xs.any fun kv => decide (kv.1 = k)) = kvs.any fun kv => decide (kv.1 = k)
  | [], _, _, h => by rw [h.1]; rfl
  | (j, d) :: r, _, _, ⟨v, r', o1, o2, h1, h2, h3, h4⟩ => by rw [h1, List.any_cons, List.any_cons, RpTk.any k h3]
theorem RpTk.len : ∀ {kvs : List (Key × T)} {xs : List (Key × V)} {o : List Addr}, RpTk K G H kvs xs o → xs.length = kvs.length
  | [], _, _, h => by rw [h.1]; rfl
  | (j, d) :: r, _, _, ⟨v, r', o1, o2, h1, h2, h3, h4⟩ => by rw [h1, List.length_cons, List.length_cons, RpTk.len h3]
theorem RpTk.noKey {k : Key} (f : Key × T → Key × T) (g : Key × V → Key × V) (hf : ∀ kv, kv.1 ≠ k → f kv = kv) (hg : ∀ kv, kv.1 ≠ k → g kv = kv) : ∀ {kvs : List (Key × T)} {xs : List (Key × V)} {o : List Addr}, RpTk K G H kvs xs o → cntT kvs k = 0 → RpTk K G H (kvs.map f) (xs.map g) o
  | [], _, _, h, _ => by rw [h.1, h.2]; exact ⟨rfl, rfl⟩
  | (j, d) :: r, _, _, ⟨v, r', o1, o2, h1, h2, h3, h4⟩, hc => by
    subst h1
    have hj : j ≠ k := fun e => by simp [cntT, e] at hc
    have hc' : cntT r k = 0 := by simpa [cntT, hj] using hc
    rw [List.map_cons, List.map_cons, hf (j, d) hj, hg (j, v) hj]
    exact ⟨v, _, o1, o2, rfl, h2, RpTk.noKey f g hf hg h3 hc', h4⟩
theorem RpTk.put {k : Key} {t : T} {v : V} {o' : List Addr} (ht : Rp K G H t v o') : ∀ {kvs : List (Key × T)} {xs : List (Key × V)} {o : List Addr}, RpTk K G H kvs xs o → okPut kvs k t = true → ∃ o3 rest, RpTk K G H (putT kvs k t) (putK xs k v) o3 ∧ (o ++ o').Perm (o3 ++ rest) := by
  intro kvs xs o h hok
  unfold putT putK
  rw [h.any k]
  by_cases ha : (kvs.any fun kv => decide (kv.1 = k)) = true
  · rw [if_pos ha, if_pos ha]
    unfold okPut at hok
    rw [Bool.or_eq_true] at hok
    rcases hok with hp | hc
    · -- a pure thing
      cases t with
      | p d =>
        have eo : o' = [] := ht.2
        subst eo
        clear ha
        induction kvs generalizing xs o with
        | nil => exact ⟨[], [], by rw [h.1]; exact ⟨rfl, rfl⟩, by rw [h.2]⟩
        | cons kv r ih =>
          obtain ⟨j, x⟩ := kv
          obtain ⟨w, r', o1, o2, h1, h2, h3, h4⟩ := h
          subst h1
          obtain ⟨o3, rest, q1, q2⟩ := ih h3
          rw [List.append_nil] at q2
          by_cases c : j = k
          · refine ⟨o3, o1 ++ rest, ?_, ?_⟩
            · rw [List.map_cons, List.map_cons, if_pos c, if_pos c]
              exact ⟨v, _, [], o3, rfl, ht, q1, rfl⟩
            · rw [h4, List.append_nil]
              exact (List.Perm.append_left o1 q2).trans (perm_mid _ _ _)
          · refine ⟨o1 ++ o3, rest, ?_, ?_⟩
            · rw [List.map_cons, List.map_cons, if_neg c, if_neg c]
              exact ⟨w, _, o1, o3, rfl, h2, q1, rfl⟩
            · rw [h4, List.append_nil, List.append_assoc]
              exact List.Perm.append_left o1 q2
      | _ => cases hp
    · replace hc := of_decide_eq_true hc
      clear ha
      induction kvs generalizing xs o with
      | nil => exact ⟨[], o', by rw [h.1]; exact ⟨rfl, rfl⟩, by rw [h.2]⟩
      | cons kv r ih =>
        obtain ⟨j, x⟩ := kv
        obtain ⟨w, r', o1, o2, h1, h2, h3, h4⟩ := h
        subst h1
        by_cases c : j = k
        · have hc0 : cntT r k = 0 := by simp [cntT, c] at hc ⊢; exact hc
          have q := RpTk.noKey (k := k) (fun kv => if kv.1 = k then (kv.1, t) else kv) (fun kv => if kv.1 = k then (kv.1, v) else kv) (fun kv e => if_neg e) (fun kv e => if_neg e) h3 hc0
          refine ⟨o' ++ o2, o1, ?_, ?_⟩
          · rw [List.map_cons, List.map_cons, if_pos c, if_pos c]
            exact ⟨v, _, o', o2, rfl, ht, q, rfl⟩
          · rw [h4]
            have cnt : ∀ x, List.count x (o1 ++ o2 ++ o') = List.count x (o' ++ o2 ++ o1) := fun x => by simp only [List.count_append]; omega
            exact List.perm_iff_count.mpr cnt
        · have hc0 : cntT r k ≤ 1 := by simpa [cntT, c] using hc
          obtain ⟨o3, rest, q1, q2⟩ := ih h3 hc0
          refine ⟨o1 ++ o3, rest, ?_, ?_⟩
          · rw [List.map_cons, List.map_cons, if_neg c, if_neg c]
            exact ⟨w, _, o1, o3, rfl, h2, q1, rfl⟩
          · rw [h4, List.append_assoc, List.append_assoc]
            exact List.Perm.append_left o1 q2
  · rw [if_neg ha, if_neg ha]
    refine ⟨o ++ o', [], ?_, by simp⟩
    clear hok ha
    induction kvs generalizing xs o with
    | nil => rw [h.1, h.2]; exact ⟨v, [], o', [], rfl, ht, ⟨rfl, rfl⟩, by simp⟩
    | cons kv r ih =>
      obtain ⟨j, x⟩ := kv
      obtain ⟨w, r', o1, o2, h1, h2, h3, h4⟩ := h
      subst h1; subst h4
      rw [List.append_assoc]
      exact ⟨w, _, o1, o2 ++ o', rfl, h2, ih h3, rfl⟩
theorem RpTk.drop (k : Key) : ∀ {kvs : List (Key × T)} {xs : List (Key × V)} {o : List Addr}, RpTk K G H kvs xs o → ∃ o3 rest, RpTk K G H (dropT kvs k) (dropK xs k) o3 ∧ o.Perm (o3 ++ rest)
  | [], _, _, h => ⟨[], [], by rw [h.1]; exact ⟨rfl, rfl⟩, by rw [h.2]; simp⟩
  | (j, t) :: r, _, _, ⟨w, r', o1, o2, h1, h2, h3, h4⟩ => by
    subst h1
    obtain ⟨o3, rest, q1, q2⟩ := RpTk.drop k h3
    unfold dropT dropK at q1 ⊢
    by_cases c : j = k
    · refine ⟨o3, o1 ++ rest, ?_, ?_⟩
      · rw [List.filter_cons_of_neg (by simpa using c), List.filter_cons_of_neg (by simpa using c)]; exact q1
      · rw [h4]; exact (List.Perm.append_left o1 q2).trans (perm_mid _ _ _)
    · refine ⟨o1 ++ o3, rest, ?_, ?_⟩
      · rw [List.filter_cons_of_pos (by simpa using c), List.filter_cons_of_pos (by simpa using c)]
        exact ⟨w, _, o1, o3, rfl, h2, q1, rfl⟩
      · rw [h4, List.append_assoc]; exact List.Perm.append_left o1 q2
/-- .. with the first of them in hand -/
theorem RpTk.take (k : Key) : ∀ {kvs : List (Key × T)} {xs : List (Key × V)} {o : List Addr} {t : T}, RpTk K G H kvs xs o → valT kvs k = some t → ∃ w o3 o4 rest, valV xs k = some w ∧ Rp K G H t w o4 ∧ RpTk K G H (dropT kvs k) (dropK xs k) o3 ∧ o.Perm (o3 ++ o4 ++ rest)
  | [], _, _, _, _, e => by simp [valT] at e
  | (j, t) :: r, _, _, u, ⟨w, r', o1, o2, h1, h2, h3, h4⟩, e => by
    subst h1
    by_cases c : j = k
    · rw [valT, if_pos c] at e; cases e
      obtain ⟨o3, rest, q1, q2⟩ := RpTk.drop k h3
      refine ⟨w, o3, o1, rest, valV_pos (by exact c), h2, ?_, ?_⟩
      · unfold dropT dropK at q1 ⊢
        rw [List.filter_cons_of_neg (by simpa using c), List.filter_cons_of_neg (by simpa using c)]; exact q1
      · rw [h4]
        refine (List.Perm.append_left o1 q2).trans ?_
        rw [← List.append_assoc]
        exact List.Perm.append_right _ List.perm_append_comm
    · rw [valT, if_neg c] at e
      obtain ⟨w', o3, o4, rest, f1, f2, f3, f4⟩ := RpTk.take k h3 e
      refine ⟨w', o1 ++ o3, o4, rest, (valV_neg (by exact c)).trans f1, f2, ?_, ?_⟩
      · unfold dropT dropK at f3 ⊢
        rw [List.filter_cons_of_pos (by simpa using c), List.filter_cons_of_pos (by simpa using c)]
        exact ⟨w, _, o1, o3, rfl, h2, f3, rfl⟩
      · rw [h4, List.append_assoc, List.append_assoc]
        exact List.Perm.append_left o1 (by rw [List.append_assoc] at f4; exact f4)
theorem RpTk.noVal (k : Key) : ∀ {kvs : List (Key × T)} {xs : List (Key × V)} {o : List Addr}, RpTk K G H kvs xs o → valT kvs k = none → valV xs k = none
  | [], _, _, h, _ => by rw [h.1]; rfl
  | (j, t) :: r, _, _, ⟨w, r', o1, o2, h1, h2, h3, h4⟩, e => by
    subst h1
    by_cases c : j = k
    · rw [valT, if_pos c] at e; cases e
    · rw [valT, if_neg c] at e
      exact (valV_neg (by exact c)).trans (RpTk.noVal k h3 e)
theorem RpTf.put {f : Str} {t : T} {v : V} {o' : List Addr} (ht : Rp K G H t v o') : ∀ {fs : List (Str × T)} {xs : List (Str × V)} {o : List Addr}, RpTf K G H fs xs o → ∃ o3 rest, RpTf K G H (putFT fs f t) (putF f v xs) o3 ∧ (o ++ o').Perm (o3 ++ rest)
  | [], _, _, h => ⟨o', [], by rw [h.1]; exact ⟨v, [], o', [], rfl, ht, ⟨rfl, rfl⟩, by simp⟩, by rw [h.2]; simp⟩
  | (j, x) :: r, _, _, ⟨w, r', o1, o2, h1, h2, h3, h4⟩ => by
    subst h1
    by_cases c : j = f
    · refine ⟨o' ++ o2, o1, ?_, ?_⟩
      · rw [putFT, putF, if_pos c, if_pos c]
        exact ⟨v, _, o', o2, rfl, ht, h3, rfl⟩
      · rw [h4]
        exact List.perm_iff_count.mpr fun x => by simp only [List.count_append]; omega
    · obtain ⟨o3, rest, q1, q2⟩ := RpTf.put ht h3
      refine ⟨o1 ++ o3, rest, ?_, ?_⟩
      · rw [putFT, putF, if_neg c, if_neg c]
        exact ⟨w, _, o1, o3, rfl, h2, q1, rfl⟩
      · rw [h4, List.append_assoc, List.append_assoc]
        exact List.Perm.append_left o1 q2
theorem RpTf.len : ∀ {kvs : List (Str × T)} {xs : List (Str × V)} {o : List Addr}, RpTf K G H kvs xs o → xs.length = kvs.length
  | [], _, _, h => by rw [h.1]; rfl
  | (j, d) :: r, _, _, ⟨v, r', o1, o2, h1, h2, h3, h4⟩ => by rw [h1, List.length_cons, List.length_cons, RpTf.len h3]
theorem RpTf.noVal (k : Str) : ∀ {kvs : List (Str × T)} {xs : List (Str × V)} {o : List Addr}, RpTf K G H kvs xs o → valT kvs k = none → xs.lookup k = none
  | [], _, _, h, _ => by rw [h.1]; rfl
  | (j, t) :: r, _, _, ⟨w, r', o1, o2, h1, h2, h3, h4⟩, e => by
    subst h1
    by_cases c : j = k
    · rw [valT, if_pos c] at e; cases e
    · rw [valT, if_neg c] at e
      rw [lookup_cons, if_neg c]
      exact RpTf.noVal k h3 e
end
/-! ### stores -/
theorem wN {H : Hp} {a : Addr} {cell : HO} {o : List Addr} (h : a ∉ o) : ∀ b ∈ o, upd H a cell b = H b := fun b hb => upd_ne (fun e => h (e ▸ hb))
section
variable {X : Cx} {e o k : Expr} {te to tk : TE} {f fk : EF} {fo : PF} {i : Nat} {pos cpos apos ipos tpos : Pos}
/-- p.append(e) -/
def sAppP (i : Nat) (fo : PF) (f : EF) : SF := fun env => (fo env).bind fun r => (atP r.2 i r.1).bind fun t0 => match unb t0 with
  | .lst _ => (f r.2).bind fun s => (atP s.2 i r.1).bind fun t => match unb t with
    | .lst us => if us.length < 16000000 then some (.nx, putP s.2 i r.1 (reb t (.lst (us ++ [s.1])))) else none
    | _ => none
  | _ => none
theorem ds_appP (ho : DP X o to i fo) (h : DT X e te f) (hb : attributeBase o "append" X.env (eval o X.env) = eval o X.env := by rfl)
    (hse : starEach [e] X.env = (false, eval e X.env) :: starEach [] X.env := by rfl)
    (hfew : ((backTo cpos (starEach [e] X.env)).all (fun x => !x.1) && (backToKw cpos (keywordEach [] X.env)).all (fun x => x.1.isSome)
      && decide ([e].length + ([] : List Keyword).length + (if ([] : List Keyword).isEmpty then 0 else 1) < 30)) = true := by rfl)
    (hline : (apos.endLine == cpos.line) = true := by rfl)
    (hs : swapsWith (.Call (.Attribute o "append" apos) [e] [] cpos) none pos.line X.env = pure false := by rfl) :
    DS X (.Expr (.Call (.Attribute o "append" apos) [e] [] cpos) pos) (tDrop (tBM X.K "list" rAppend to (tCons te tNil))) (sAppP i fo f) [] := by
  refine ⟨ps_expr (pe_bm PySem.F.plainAttrs_list PySem.F.slot_list_append PySem.F.type_list_append mt_append ho.pe (pa_cons h.pe pa_nil hse) hb hfew hline hse rfl) hs, ?_⟩
  intro G0 H0 H ts vs env σ fl env' S g D q
  obtain ⟨⟨P, e1⟩, g1, g2⟩ := obind g
  obtain ⟨t0, g3, g4⟩ := obind g2
  dsimp only at g4
  split at g4
  · rename_i us0 hu0
    obtain ⟨⟨y, e2⟩, g5, g6⟩ := obind g4
    obtain ⟨t, g7, g8⟩ := obind g6
    dsimp only at g8
    split at g8
    · rename_i us hu
      split at g8
      · rename_i hl
        cases g8
        refine ho.ok _ _ _ _ _ _ _ _ _ _ S g1 _ fun v w H1 s1 S1 hv hc => ?_
        obtain ⟨tt0, k1, k2⟩ := atP_eq g3
        obtain ⟨G, o1, r, sG⟩ := S1.at' k1 k2 hv hc
        have r := r.unb
        rw [hu0] at r
        obtain ⟨a, xs0, o', h1, h2, _⟩ := r
        subst h1
        refine ⟨.inl ⟨rfl, xs0, .inl (.inl h2)⟩, ?_⟩
        refine h.ok _ _ _ _ _ _ _ _ _ _ S1 g5 _ fun x H2 s2 S2 => ?_
        obtain ⟨tt, k3, k4⟩ := atP_eq g7
        obtain ⟨G2, p1, p2, r1, r2, nd, sG2, fr, wr⟩ := OkS.wr (es := [y]) (ws := [x]) S2 rfl k3 k4 hv (hc.same s2)
        have ru := r1.unb
        rw [hu] at ru
        obtain ⟨a', xs, o2, h1', h2', h3', h4'⟩ := ru
        cases h1'
        subst h4'
        have nd' : (a :: (o2 ++ p2)).Nodup := nd
        have na : a ∉ o2 ++ p2 := (List.nodup_cons.mp nd').1
        refine ⟨a, xs, x, rfl, rfl, h2', by rw [h3'.len, sizeLine_eq]; omega, ?_⟩
        have r3 := (h3'.append r2).mono (Same.refl G2) (H' := upd H2 a (.lst (xs ++ [x]))) _ (wN na)
        have S3 := wr a (.lst (xs ++ [x])) (reb t (.lst (us ++ [y]))) [] [] (a :: (o2 ++ p2)) [] [] (by simp) (r1.reb ⟨a, _, _, rfl, upd_same, r3, rfl⟩) ⟨rfl, rfl⟩ (by simp)
        rw [← putP_eq k3] at S3
        exact q _ _ S3 .rfl'
      · cases g8
    · cases g8
  · cases g4
/-- p[k] = e, p a dict -/
def sPutP (i : Nat) (fo : PF) (fk f : EF) : SF := fun env => (f env).bind fun r => (fo r.2).bind fun p => (fk p.2).bind fun s => (keyT s.1).bind fun k => (atP s.2 i p.1).bind fun t => match unb t with
  | .dic kvs => if kvs.length < 16000000 ∧ okPut kvs k r.1 = true then some (.nx, putP s.2 i p.1 (reb t (.dic (putT kvs k r.1)))) else none
  | _ => none
theorem ds_putP (hu : X.A.units + 1 < cLine) (ho : DP X o to i fo) (hk : DT X k tk fk) (h : DT X e te f) (hs : swapsWith e (some (.Subscript o k ipos)) pos.line X.env = pure false := by rfl) : DS X (.Assign [.Subscript o k ipos] e pos) (sDPut to tk te) (sPutP i fo fk f) [] := by
  refine ⟨ps_dput hu ho.pe hk.pe h.pe hs, ?_⟩
  intro G0 H0 H ts vs env σ fl env' S g D q
  obtain ⟨⟨y, e1⟩, g1, g2⟩ := obind g
  obtain ⟨⟨P, e2⟩, g3, g4⟩ := obind g2
  obtain ⟨⟨z, e3⟩, g5, g6⟩ := obind g4
  obtain ⟨kk, g7, g8⟩ := obind g6
  obtain ⟨t, g9, g10⟩ := obind g8
  dsimp only at g10
  split at g10
  · rename_i kvs hun
    split at g10
    · rename_i hl
      cases g10
      cases z with
      | p kd =>
        refine h.ok _ _ _ _ _ _ _ _ _ _ S g1 _ fun x H1 s1 S1 => ?_
        refine ho.ok _ _ _ _ _ _ _ _ _ _ S1 g3 _ fun v w H2 s2 S2 hv hc => ?_
        refine hk.ok _ _ _ _ _ _ _ _ _ _ S2 g5 _ fun kx H3 s3 S3 => ?_
        have ek : kx = L2.kV kk := keyD_rp (show keyD kd = some kk from g7) S3.top
        obtain ⟨tt, k3, k4⟩ := atP_eq g9
        obtain ⟨G2, p1, p2, r1, r2, nd, sG2, fr, wr⟩ := OkS.wr (es := [y]) (ws := [x]) S3.pop rfl k3 k4 hv (hc.same s3)
        have ru := r1.unb
        rw [hun] at ru
        obtain ⟨a, xs, o2, h1, h2, h3, h4⟩ := ru
        subst h1; subst h4
        have na : a ∉ o2 ++ p2 := (List.nodup_cons.mp (show (a :: (o2 ++ p2)).Nodup from nd)).1
        refine ⟨a, _, rfl, by rw [ek]; exact DPut.k h2 (by rw [h3.len, sizeLine_eq]; omega), ?_⟩
        obtain ⟨x', r', q1, q2, q3, q4, q5, q6⟩ := r2
        cases q3
        obtain ⟨e7, e8⟩ := q5
        cases e7
        subst e8
        rw [List.append_nil] at q6
        subst q6
        have m1 := h3.mono (Same.refl G2) (H' := upd H3 a (.dK (putK xs kk x))) _ (wN fun hm => na (by simp [hm]))
        have m2 := q4.mono (Same.refl G2) (H' := upd H3 a (.dK (putK xs kk x))) _ (wN fun hm => na (by simp [hm]))
        obtain ⟨o5, rest, f1, f2⟩ := m1.put m2 hl.2
        have S4 := wr a (.dK (putK xs kk x)) (reb t (.dic (putT kvs kk y))) [] [] (a :: o5) [] rest (by simp) (r1.reb ⟨a, _, _, rfl, upd_same, f1, rfl⟩) ⟨rfl, rfl⟩ (by
          simp only [List.cons_append, List.append_nil]
          exact List.Perm.cons a f2)
        rw [← putP_eq k3] at S4
        exact q _ _ S4 .rfl'
      | _ => cases g7
    · cases g10
  · cases g10
/-- p.f = e, p an object -/
def sFldP (n a : Str) (i : Nat) (fo : PF) (f : EF) : SF := fun env => (f env).bind fun r => (fo r.2).bind fun p => (atP p.2 i p.1).bind fun t => match unb t with
  | .obj m fs => if m = n ∧ fs.length < 900 then some (.nx, putP p.2 i p.1 (reb t (.obj m (putFT fs a r.1)))) else none
  | _ => none
theorem ds_fldP {n a : Str} (hA : Att X.K n a) (ho : DP X o to i fo) (h : DT X e te f) (hs : swapsWith e (some (.Attribute o a ipos)) pos.line X.env = pure false := by rfl) : DS X (.Assign [.Attribute o a ipos] e pos) (sFld X.K to te a) (sFldP n a i fo f) [] := by
  refine ⟨ps_fld ho.pe h.pe hs, ?_⟩
  intro G0 H0 H ts vs env σ fl env' S g D q
  obtain ⟨⟨y, e1⟩, g1, g2⟩ := obind g
  obtain ⟨⟨P, e2⟩, g3, g4⟩ := obind g2
  obtain ⟨t, g9, g10⟩ := obind g4
  dsimp only at g10
  split at g10
  · rename_i m fs hun
    split at g10
    · rename_i hl
      obtain ⟨hm, hl⟩ := hl
      subst hm
      cases g10
      refine h.ok _ _ _ _ _ _ _ _ _ _ S g1 _ fun x H1 s1 S1 => ?_
      refine ho.ok _ _ _ _ _ _ _ _ _ _ S1 g3 _ fun v w H2 s2 S2 hv hc => ?_
      obtain ⟨tt, k3, k4⟩ := atP_eq g9
      obtain ⟨G2, p1, p2, r1, r2, nd, sG2, fr, wr⟩ := OkS.wr (es := [y]) (ws := [x]) S2 rfl k3 k4 hv hc
      have ru := r1.unb
      rw [hun] at ru
      obtain ⟨ad, C, dx, xs, o2, h1, h0, h2, h3, h4⟩ := ru
      subst h1; subst h4
      obtain ⟨c1, c2⟩ := hA C h0
      have na : ad ∉ o2 ++ p2 := (List.nodup_cons.mp (show (ad :: (o2 ++ p2)).Nodup from nd)).1
      refine ⟨ad, C, dx, xs, rfl, h2, c1, c2, by rw [h3.len]; omega, ?_⟩
      obtain ⟨x', r', q1, q2, q3, q4, q5, q6⟩ := r2
      cases q3
      obtain ⟨e7, e8⟩ := q5
      cases e7
      subst e8
      rw [List.append_nil] at q6
      subst q6
      have m1 := h3.mono (Same.refl G2) (H' := upd H2 ad (.ins C dx (putF a x xs))) _ (wN fun hm => na (by simp [hm]))
      have m2 := q4.mono (Same.refl G2) (H' := upd H2 ad (.ins C dx (putF a x xs))) _ (wN fun hm => na (by simp [hm]))
      obtain ⟨o5, rest, f1, f2⟩ := m1.put (f := a) m2
      have S4 := wr ad (.ins C dx (putF a x xs)) (reb t (.obj m (putFT fs a y))) [] [] (ad :: o5) [] rest (by simp) (r1.reb ⟨ad, C, dx, _, _, rfl, h0, upd_same, f1, rfl⟩) ⟨rfl, rfl⟩ (by
        simp only [List.cons_append, List.append_nil]
        exact List.Perm.cons ad f2)
      rw [← putP_eq k3] at S4
      exact q _ _ S4 .rfl'
    · cases g10
  · cases g10
end
end DL

set_option Elab.async false
set_option linter.all false
set_option maxRecDepth 100000
set_option maxHeartbeats 1000000
/-! Expressions that change what stands; calls that are lent a thing; objects made. -/
namespace DL
open PySem PySem.Spec PyProof.Rows L2
def EvX (K : PySem.W.Frag) (te : TE) (f : EF) : Prop := ∀ (G0 H0 H : Hp) (ts : List T) (vs : List V) (env : Env) (σ : St) (t : T) (env' : Env), OkS K G0 H0 [] H ts vs env σ → f env = some (t, env') →
  ∀ Q : VK, (∀ v H', OkS K G0 H0 [] H' (t :: ts) (v :: vs) env' σ → Q v H') → te σ H Q
def EvAX (K : PySem.W.Frag) (ta : TA) (f : AF) : Prop := ∀ (G0 H0 H : Hp) (ts : List T) (vs : List V) (env : Env) (σ : St) (us : List T) (env' : Env), OkS K G0 H0 [] H ts vs env σ → f env = some (us, env') →
  ∀ Q : List V → Hp → Prop, (∀ ws H', ws.length = us.length → OkS K G0 H0 [] H' (us ++ ts) (ws ++ vs) env' σ → Q ws H') → ta σ H Q
structure DX (X : Cx) (e : Expr) (te : TE) (f : EF) : Prop where
  pe : PE X e te
  ok : EvX X.K te f
structure DAX (X : Cx) (es : List Expr) (ta : TA) (f : AF) : Prop where
  pa : PA X es ta
  ok : EvAX X.K ta f
section
variable {X : Cx} {e a b : Expr} {es : List Expr} {te ta tb : TE} {tr : TA} {f fa fb : EF} {fr : AF} {pos : Pos}
theorem DT.dx (h : DT X e te f) : DX X e te f := ⟨h.pe, fun G0 H0 H ts vs env σ t env' S g Q q => h.ok _ _ _ _ _ _ _ _ _ _ S g Q fun v H' _ S' => q v H' S'⟩
theorem DA.dx (h : DA X es tr fr) : DAX X es tr fr := ⟨h.pa, fun G0 H0 H ts vs env σ t env' S g Q q => h.ok _ _ _ _ _ _ _ _ _ _ S g Q fun v H' _ hl S' => q v H' hl S'⟩
theorem dax_nil : DAX X [] tNil aN := da_nil.dx
theorem dax_cons (h : DX X e te f) (hr : DAX X es tr fr) (hs : starEach (e :: es) X.env = (false, eval e X.env) :: starEach es X.env := by rfl) : DAX X (e :: es) (tCons te tr) (aC f fr) := by
  refine ⟨pa_cons h.pe hr.pa hs, ?_⟩
  intro G0 H0 H ts vs env σ us env' S g Q q
  obtain ⟨⟨x, e1⟩, h1, h2⟩ := obind g
  obtain ⟨⟨y, e2⟩, h3, h4⟩ := omap h2
  cases h4
  refine h.ok _ _ _ _ _ _ _ _ _ S h1 _ fun v H1 S1 => ?_
  refine hr.ok _ _ _ _ _ _ _ _ _ S1 h3 _ fun ws H2 hl S2 => ?_
  exact q (v :: ws) H2 (by simp [hl]) (S2.mid hl)
theorem dx_tup {k} (h : DAX X es tr fr) : DX X (.Tuple es k pos) (tTup tr) (eT fr) := by
  refine ⟨pe_tup h.pa, ?_⟩
  intro G0 H0 H ts vs env σ t env' S g Q q
  obtain ⟨⟨x, e1⟩, h1, h2⟩ := obind g
  by_cases hl : x.length ≤ 1000
  · rw [if_pos hl] at h2
    cases h2
    refine h.ok _ _ _ _ _ _ _ _ _ S h1 _ fun ws H1 hw S1 => ⟨by rw [hw]; exact le1000 hl, fun p hp => ?_⟩
    exact q _ _ (S1.newT hw hp)
  · rw [if_neg hl] at h2; cases h2
theorem dx_lst (h : DAX X es tr fr) : DX X (.List es pos) (tLst tr) (eL fr) := by
  refine ⟨pe_lst h.pa, ?_⟩
  intro G0 H0 H ts vs env σ t env' S g Q q
  obtain ⟨⟨x, e1⟩, h1, h2⟩ := obind g
  by_cases hl : x.length ≤ 1000
  · rw [if_pos hl] at h2
    cases h2
    refine h.ok _ _ _ _ _ _ _ _ _ S h1 _ fun ws H1 hw S1 => ⟨by rw [hw]; exact le1000 hl, fun p hp => ?_⟩
    exact q _ _ (S1.newL hw hp)
  · rw [if_neg hl] at h2; cases h2
theorem dx_op {op : Operator} {r : R2} {g : D → D → Option D} (ho : OpR X (binaryOp op) r) (hs : Sc2 r g) (ha : DX X a ta fa) (hb : DX X b tb fb) : DX X (.BinOp a op b pos) (tOp r ta tb) (eOp g fa fb) := by
  refine ⟨pe_op ho ha.pe hb.pe, ?_⟩
  intro G0 H0 H ts vs env σ t env' S e Q q
  obtain ⟨a, e1, b, d, h1, h2, h3, rfl⟩ := eOp_some e
  refine ha.ok _ _ _ _ _ _ _ _ _ S h1 _ fun v H1 S1 => ?_
  refine hb.ok _ _ _ _ _ _ _ _ _ S1 h2 _ fun w H2 S2 => ?_
  exact hs a b d h3 X.K H2 v w Q S2.pop.top S2.top fun u hu => q u H2 (S2.pop.pop.scal hu)
theorem dx_add (ha : DX X a ta fa) (hb : DX X b tb fb) : DX X (.BinOp a .Add b pos) (tOp rAddA ta tb) (eOp gAdd fa fb) := dx_op op_addA sc_add ha hb
theorem dx_sub (ha : DX X a ta fa) (hb : DX X b tb fb) : DX X (.BinOp a .Sub b pos) (tOp (rI0 fun i j => .int (i - j)) ta tb) (eOp gSub fa fb) := dx_op op_sub sc_int0 ha hb
theorem dx_fz (h : DX X e te f) : DX X e te (eFz f) := by
  refine ⟨h.pe, ?_⟩
  intro G0 H0 H ts vs env σ t env' S g Q q
  obtain ⟨⟨x, e1⟩, h1, h2⟩ := omap g
  cases h2
  exact h.ok _ _ _ _ _ _ _ _ _ S h1 _ fun v H1 S1 => q v H1 S1.frz
/-! ### statements of such expressions -/
theorem ds_setX {i : Nat} {x : Str} {pos' : Pos} (hN : X.N.Nodup) (hi : X.N[i]? = some x) (hx : Loc X.env.scope x) (he : DX X e te f) (hs : swapsWith e (some (.Name x pos')) pos.line X.env = pure false := by rfl) (hf : X.fn x = true ∨ X.env.scope.names.lookup x = some .local := by first | exact .inl rfl | exact .inr rfl | assumption) :
    DS X (.Assign [.Name x pos'] e pos) (tAsg te (gName i)) (sSet i f) [i] := by
  refine ⟨ps_set hN hi hx he.pe hs hf, ?_⟩
  intro G0 H0 H ts vs env σ fl env' S g D q
  obtain ⟨⟨x, e1⟩, g1, g2⟩ := obind g
  by_cases hi : i < e1.length
  · rw [if_pos hi] at g2
    cases g2
    exact he.ok _ _ _ _ _ _ _ _ _ S g1 _ fun v H' S' => q H' _ (S'.put hi) .set
  · rw [if_neg hi] at g2; cases g2
theorem ds_dropX (h : DX X e te f) (hs : swapsWith e none pos.line X.env = pure false := by rfl) : DS X (.Expr e pos) (tDrop te) (sDrop f) [] := by
  refine ⟨ps_expr h.pe hs, ?_⟩
  intro G0 H0 H ts vs env σ fl env' S g D q
  obtain ⟨⟨x, e1⟩, g1, g2⟩ := omap g
  cases g2
  exact h.ok _ _ _ _ _ _ _ _ _ S g1 _ fun v H' S' => q H' σ S'.pop .rfl'
theorem ds_retX (h : DX X e te f) : DS X (.Return (some e) pos) (tRet te) (sRet f) [] := by
  refine ⟨ps_ret h.pe, ?_⟩
  intro G0 H0 H ts vs env σ fl env' S g D q
  obtain ⟨⟨x, e1⟩, g1, g2⟩ := omap g
  cases g2
  exact h.ok _ _ _ _ _ _ _ _ _ S g1 _ fun v H' S' => q v H' σ S' .rfl'
theorem ds_asgX {tg : Expr} {g : TG} {G : GF} {sl : List Nat} (he : DX X e te f) (hg : DG X tg g G sl) (hs : swapsWithSole [tg] e pos.line X.env = pure false := by rfl) (hw : swappedStores [tg] e X.env = pure none := by rfl)
    (h1 : (assignEach [tg] X.env).map (·.2) = [assign tg X.env] := by rfl) : DS X (.Assign [tg] e pos) (tAsg te g) (sAsg f G) sl := by
  refine ⟨ps_asg he.pe hg.pg hs hw h1, ?_⟩
  intro G0 H0 H ts vs env σ fl env' S k D q
  obtain ⟨⟨t, e1⟩, g1, g2⟩ := obind k
  obtain ⟨e2, g3, g4⟩ := omap g2
  cases g4
  exact he.ok _ _ _ _ _ _ _ _ _ S g1 _ fun v H1 S1 => hg.ok _ _ _ _ _ _ _ _ _ _ _ S1 g3 _ fun σ' S' f' => q H1 σ' S' f'
end
/-! ### d.pop(k, x) -/
def ePop (i : Nat) (fo : PF) (fk fx : EF) : EF := fun env => (fo env).bind fun r => (atP r.2 i r.1).bind fun t0 => match unb t0 with
  | .dic _ => (fk r.2).bind fun s => (fx s.2).bind fun x => (keyT s.1).bind fun k => (atP x.2 i r.1).bind fun t => match unb t with
    | .dic kvs => some (match valT kvs k with
      | some u => (u, putP x.2 i r.1 (reb t (.dic (dropT kvs k))))
      | none => (x.1, x.2))
    | _ => none
  | _ => none
section
variable {X : Cx} {e o k x : Expr} {te to tk tx : TE} {f fk fx : EF} {fo : PF} {i : Nat} {pos cpos apos ipos tpos : Pos}
theorem dx_pop (ho : DP X o to i fo) (hk : DT X k tk fk) (hx : DT X x tx fx) (m : M2 X o "pop" apos k x cpos := by exact ⟨by rfl, by rfl, by rfl, by rfl⟩) : DX X (.Call (.Attribute o "pop" apos) [k, x] [] cpos) (tDPop2 to tk tx) (ePop i fo fk fx) := by
  refine ⟨pe_dpop2 ho.pe hk.pe hx.pe m, ?_⟩
  intro G0 H0 H ts vs env σ t env' S g Q q
  obtain ⟨⟨P, e1⟩, g1, g2⟩ := obind g
  obtain ⟨t0, g3, g4⟩ := obind g2
  dsimp only at g4
  split at g4
  · rename_i kvs0 hu0
    obtain ⟨⟨z, e2⟩, g5, g6⟩ := obind g4
    obtain ⟨⟨y, e3⟩, g7, g8⟩ := obind g6
    obtain ⟨kk, g9, g10⟩ := obind g8
    obtain ⟨t1, g11, g12⟩ := obind g10
    dsimp only at g12
    split at g12
    · rename_i kvs hun
      cases z with
      | p kd =>
        refine ho.ok _ _ _ _ _ _ _ _ _ _ S g1 _ fun v w H1 s1 S1 hv hc => ?_
        obtain ⟨tt0, k1, k2⟩ := atP_eq g3
        obtain ⟨G, o1, r, sG⟩ := S1.at' k1 k2 hv hc
        have r := r.unb
        rw [hu0] at r
        obtain ⟨a, xs0, o', h1, h2, _⟩ := r
        subst h1
        refine ⟨a, rfl, .inl ⟨xs0, .inl h2⟩, ?_⟩
        refine hk.ok _ _ _ _ _ _ _ _ _ _ S1 g5 _ fun kx H2 s2 S2 => ?_
        have ek : kx = L2.kV kk := keyD_rp (show keyD kd = some kk from g9) S2.top
        refine hx.ok _ _ _ _ _ _ _ _ _ _ S2.pop g7 _ fun dx H3 s3 S3 => ?_
        obtain ⟨tt, k3, k4⟩ := atP_eq g11
        have hc3 := (hc.same s2).same s3
        obtain ⟨G2, p1, p2, r1, r2, nd, sG2, fr, wr⟩ := OkS.wr (es := []) (ws := []) S3.pop rfl k3 k4 hv hc3
        have ru := r1.unb
        rw [hun] at ru
        obtain ⟨a', xs, o2, h1', h2', h3', h4'⟩ := ru
        cases h1'
        subst h4'
        have e2' : p2 = [] := r2.2
        subst e2'
        have na : a ∉ o2 := fun hm => (List.nodup_cons.mp (show (a :: (o2 ++ [])).Nodup from nd)).1 (by simp [hm])
        refine ⟨xs, kk, h2', ek, fun u hu => ?_, fun hu => ?_⟩
        · cases hvt : valT kvs kk with
          | none => rw [h3'.noVal kk hvt] at hu; cases hu
          | some ut =>
            rw [hvt] at g12
            have g12 : (ut, putP e3 i P (reb t1 (.dic (dropT kvs kk)))) = (t, env') := Option.some.inj g12
            cases g12
            obtain ⟨w', o3, o4, rest, f1, f2, f3, f4⟩ := h3'.take kk hvt
            rw [hu] at f1; cases f1
            have n4 : a ∉ o4 := fun hm => na (f4.mem_iff.mpr (by simp [hm]))
            have n3 : a ∉ o3 := fun hm => na (f4.mem_iff.mpr (by simp [hm]))
            have S4 := wr a (.dK (dropK xs kk)) (reb t1 (.dic (dropT kvs kk))) [t] [u] (a :: o3) o4 rest (by simp) (r1.reb ⟨a, _, _, rfl, upd_same, f3.mono (Same.refl _) _ (wN n3), rfl⟩) ⟨u, [], o4, [], rfl, f2.mono (Same.refl _) _ (wN n4), ⟨rfl, rfl⟩, by simp⟩ (by
              simp only [List.cons_append, List.append_nil]
              exact List.Perm.cons a f4)
            rw [← putP_eq k3] at S4
            exact q u _ S4
        · cases hvt : valT kvs kk with
          | none =>
            rw [hvt] at g12
            have g12 : (y, e3) = (t, env') := Option.some.inj g12
            cases g12
            exact q dx H3 S3
          | some ut =>
            obtain ⟨w', o3, o4, rest, f1, _⟩ := h3'.take kk hvt
            rw [hu] at f1; cases f1
      | _ => cases g9
    · cases g12
  · cases g4
end
/-! ### lent things -/
/-- a def's promise that changes its first argument -/
def spM (n : Nat) (φ : T → List D → Option (T × T)) (K : PySem.W.Frag) : Sp := fun vs H Q _ => ∃ (t0 : T) (ds : List D) (v0 : V) (vs' : List V) (t t' : T) (G : Hp) (o : List Addr), vs = v0 :: vs' ∧ ds.length = n ∧ φ t0 ds = some (t, t') ∧ Same G H ∧ Rp K G H t0 v0 o ∧ o.Nodup ∧ (∀ a ∈ o, G a = none) ∧ RpDs K G ds vs' ∧
  ∀ v G' H' o1 o2, Same G G' → Same G' H' → (∀ a u, a ∉ o → H a = some u → H' a = some u) → Rp K G' H' t v o1 → Rp K G' H' t' v0 o2 → (o1 ++ o2).Nodup → (∀ a ∈ o1 ++ o2, G' a = none ∧ (a ∈ o ∨ H a = none)) →
    (∀ a u, G' a = some u → G a ≠ none ∨ H a = none ∨ a ∈ o ∨ ∃ xs, u = .tup xs) → Q v H'
def startM (n : Nat) (t0 : T) (ds : List D) : Env := some t0 :: startE (n - 1) ds
def runM (n k : Nat) (F : SF) (t0 : T) (ds : List D) : Option (T × T) := if ds.length = k then (F (startM n t0 ds)).bind fun r => match r.2[0]? with
  | some (some t') => match r.1 with
    | .rt t => some (t, t')
    | .nx => some (.p .non, t')
    | _ => none
  | _ => none
  else none
theorem runM_len {n k : Nat} {F : SF} {t0 : T} {ds : List D} {r : T × T} (h : runM n k F t0 ds = some r) : ds.length = k := by
  unfold runM at h
  by_cases hl : ds.length = k
  · exact hl
  · rw [if_neg hl] at h; cases h
section
variable {P : Program} {w : World} {K : PySem.W.Frag} {mg : Str → Option Value} {base : Heap}
theorem okM {x qual : Str} {st : Stmt} {f : Addr} {fd : FuncData} {N ps : List Str} {k : Nat} {n np : Nat} {Fb : SF} (F : Fun K x qual st f fd) (S : FnScope N ps (defScope st)) (hn : N.length = n) (hnp : ps.length = np + 1) (hlt : 1 ≤ n)
    (hbody : ∀ (cdv : Value) (A : Around) (outer : List PySem.Env) (s : Shared) (H : Hp) (E : XK), Room k (A.deeper (envOfC qual (defScope st) s.heap.objs.size f cdv)) →
      ∃ t sl, DSs (cxOf CX0 P w K mg base N qual (defScope st) f cdv A outer s H E).nox (defBody st) t Fb sl ∧ 0 ∉ sl) : FnOk P w K mg base CX0 (k + 1) f fd ps (spM np (runM n np Fb) K) := by
  refine F.ok S (fun vs H Q E h => ?_) (fun cdv A outer s H vs Q E hr h => ?_)
  · obtain ⟨t0, ds, v0, vs', t, t', G, o, rfl, h1, _, _, _, _, _, h2, _⟩ := h
    rw [List.length_cons, h2.len, h1, hnp]
  · obtain ⟨t0, ds, v0, vs', t, t', G, o, rfl, h1, h2, h3, h4, h5, h6, h7, q⟩ := h
    obtain ⟨tr, sl, hd, h0⟩ := hbody cdv A outer s H E hr
    refine ⟨tr, hd.ps, ?_⟩
    unfold runM at h2
    rw [if_pos h1] at h2
    obtain ⟨⟨fl, e1⟩, g1, g2⟩ := obind h2
    have oH : ∀ a ∈ o, ∃ u, H a = some u := fun a ha => by
      obtain ⟨u, e, _⟩ := h4.there _ a ha
      exact ⟨u, e⟩
    have env0 : RpE K G H (startM n t0 ds) (start N (v0 :: vs')) o := by
      rw [L2_start, hn, List.map_cons, List.cons_append]
      refine ⟨v0, _, o, [], rfl, h4, ?_, by simp⟩
      rw [show n - (v0 :: vs').length = n - 1 - ds.length by rw [List.length_cons, h7.len]; omega]
      exact rpE_start h7
    have S0 : OkS K G (fun a => if a ∈ o then none else H a) [] H [] [] (startM n t0 ds) (start N (v0 :: vs')) := by
      refine ⟨G, [], o, ⟨rfl, rfl⟩, env0, by simpa using h5, fun a ha => ⟨h6 a (by simpa using ha), if_pos (by simpa using ha)⟩, Same.refl _, h3, fun a u e => ?_, fun a u e => .inl (by rw [e]; simp), fun q hq => by cases hq⟩
      by_cases c : a ∈ o
      · rw [if_pos c] at e; cases e
      · rw [if_neg c] at e; exact e
    have hσ0 : (start N (v0 :: vs'))[0]? = some (some v0) := by rw [L2_start]; rfl
    refine hd.ok G _ H [] [] _ _ fl e1 S0 g1 _ ?_
    have fin : ∀ (u : T) (v : V) (H' : Hp) (σ : St), OkS K G (fun a => if a ∈ o then none else H a) [] H' [u] [v] e1 σ → Dif sl (start N (v0 :: vs')) σ → u = t → e1[0]? = some (some t') → Q v H' := fun u v H' σ S1 df e et => by
      subst e
      have hσ : σ[0]? = some (some v0) := by rw [df.2 0 h0]; exact hσ0
      obtain ⟨G', ot, oe, s1⟩ := S1
      obtain ⟨w, r, o1, o2, a1, a2, a3, a4⟩ := s1.tmp
      cases a1
      have a5 : o2 = [] := a3.2
      subst a5
      rw [List.append_nil] at a4
      subst a4
      obtain ⟨v', oA, oB, b1, b2, b3, b4⟩ := s1.env.take et
      rw [hσ] at b1; cases b1
      have nd : (ot ++ oA).Nodup := by
        have : (ot ++ oe).Perm ((ot ++ oA) ++ oB) := by rw [List.append_assoc]; exact List.Perm.append_left _ b4
        exact (List.nodup_append.mp (this.nodup_iff.mp s1.nd)).1
      have fr : ∀ a ∈ ot ++ oA, G' a = none ∧ (a ∈ o ∨ H a = none) := fun a ha => by
        have hm : a ∈ ot ++ oe := by
          rcases List.mem_append.mp ha with ha | ha
          · exact List.mem_append_left _ ha
          · exact List.mem_append_right _ (b4.mem_iff.mpr (List.mem_append_left _ ha))
        obtain ⟨c1, c2⟩ := s1.fr a hm
        refine ⟨c1, ?_⟩
        by_cases c : a ∈ o
        · exact .inl c
        · rw [if_neg c] at c2; exact .inr c2
      refine q v G' H' ot oA s1.g0 s1.gh (fun a u c e => s1.h0 a u (by rw [if_neg c]; exact e)) a2 b2 nd fr fun a u e => ?_
      rcases s1.nw a u e with c | c | c
      · exact .inl c
      · by_cases ca : a ∈ o
        · exact .inr (.inr (.inl ca))
        · rw [if_neg ca] at c; exact .inr (.inl c)
      · exact .inr (.inr (.inr c))
    split at g2
    · rename_i t1 et
      have et : e1[0]? = some (some t1) := et
      cases fl with
      | nx =>
        have e : (T.p .non, t1) = (t, t') := Option.some.inj g2
        cases e
        exact fun H' σ' S1 df => fin _ _ H' σ' (S1.scal (z := .non) (u := .non) fun _ => rfl) df rfl et
      | rt u =>
        have e : (u, t1) = (t, t') := Option.some.inj g2
        cases e
        exact fun v H' σ' S1 df => fin _ _ H' σ' S1 df rfl et
      | bk => cases g2
      | ct => cases g2
    · cases g2
end
/-- a thing at a place is lent -/
theorem OkS.lend {K : PySem.W.Frag} {G0 H0 H : Hp} {ts : List T} {vs ws : List V} {ds : List D} {env : Env} {σ : St} {i : Nat} {P : List Stp} {t u : T} {v w : V} (S : OkS K G0 H0 [] H (ds.map T.p ++ ts) (ws ++ vs) env σ) (hw : ws.length = ds.length) (he : env[i]? = some (some t)) (hp : getP P t = some u)
    (hv : σ[i]? = some (some v)) (hc : Ch H P v w) : ∃ (G : Hp) (o1 : List Addr), Same G H ∧ Rp K G H u w o1 ∧ o1.Nodup ∧ (∀ a ∈ o1, G a = none) ∧ RpDs K G ds ws ∧
    ∀ (r : V) (G' H' : Hp) (p1 p2 : List Addr) (t' u' : T), Same G G' → Same G' H' → (∀ a x, a ∉ o1 → H a = some x → H' a = some x) → Rp K G' H' t' r p1 → Rp K G' H' u' w p2 → (p1 ++ p2).Nodup → (∀ a ∈ p1 ++ p2, G' a = none ∧ (a ∈ o1 ∨ H a = none)) →
      (∀ a x, G' a = some x → G a ≠ none ∨ H a = none ∨ a ∈ o1 ∨ ∃ xs, x = .tup xs) → OkS K G0 H0 [] H' (t' :: ts) (r :: vs) (env.set i (some (setP P t u'))) σ := by
  obtain ⟨G, ot, oe, s⟩ := S
  obtain ⟨o2, o5, k1, k2, k3⟩ := s.tmp.split (us := ds.map T.p) (by rw [List.length_map]; exact hw)
  obtain ⟨kd, k4⟩ := rpDs_of k1
  subst k4
  have k3 : ot = o5 := k3
  subst k3
  obtain ⟨v', oA, oB, e1, e2, e3, e4⟩ := s.env.take he
  rw [hv] at e1
  cases e1
  obtain ⟨w', o1, o6, f1, f2, f3, f4⟩ := e2.foc s.gh hp
  have := f1.det hc
  subst this
  have pm : (ot ++ oe).Perm (o1 ++ (o6 ++ (ot ++ oB))) := by
    have q1 : (ot ++ oe).Perm (ot ++ ((o1 ++ o6) ++ oB)) := List.Perm.append_left _ (e4.trans (List.Perm.append_right _ f3))
    refine q1.trans (List.perm_iff_count.mpr fun x => by simp only [List.count_append]; omega)
  have nd := pm.nodup_iff.mp s.nd
  have fr : ∀ b ∈ o1 ++ (o6 ++ (ot ++ oB)), G b = none ∧ H0 b = none := fun b hb => s.fr b (pm.mem_iff.mpr hb)
  have thr : ∀ b ∈ o6 ++ (ot ++ oB), ∃ x, H b = some x ∧ ∀ xs, x ≠ .tup xs := fun b hb => by
    have : b ∈ ot ++ oe := pm.mem_iff.mpr (List.mem_append_right _ hb)
    rcases List.mem_append.mp this with h | h
    · exact s.tmp.there _ b h
    · exact s.env.there _ b h
  refine ⟨G, o1, s.gh, f2, (List.nodup_append.mp nd).1, fun a ha => (fr a (List.mem_append_left _ ha)).1, kd, fun r G' H' p1 p2 t' u' g1 g2 g3 g4 g5 g6 g7 g8 => ?_⟩
  have out : ∀ b ∈ o6 ++ (ot ++ oB), b ∉ o1 := fun b hb h => (List.nodup_append.mp nd).2.2 b h b hb rfl
  have kp : ∀ b ∈ o6 ++ (ot ++ oB), H' b = H b := fun b hb => by
    obtain ⟨x, e, _⟩ := thr b hb
    rw [e, g3 b x (out b hb) e]
  obtain ⟨o7, q1, q2⟩ := f4 g1 (fun b hb => kp b (by simp [hb])) g5
  have e3' := e3.mono g1 _ (fun b hb => kp b (by simp [hb]))
  have hl : i < env.length := (List.getElem?_eq_some_iff.mp he).1
  obtain ⟨o8, h1, h2⟩ := e3'.put (i := i) (by simpa using hl) (fun x z => by rw [List.getElem?_set_self hl] at z; cases z) q1
  rw [List.set_set, set_back hv] at h1
  have t2 := k2.mono g1 _ (fun b hb => kp b (by simp [hb]))
  have pm8 : o8.Perm (p2 ++ (o6 ++ oB)) := h2.trans (by rw [← List.append_assoc]; exact List.Perm.append_right _ q2)
  have pmN : ((p1 ++ ot) ++ o8).Perm ((p1 ++ p2) ++ (o6 ++ (ot ++ oB))) := (List.Perm.append_left _ pm8).trans (List.perm_iff_count.mpr fun x => by simp only [List.count_append]; omega)
  refine ⟨G', p1 ++ ot, o8, ⟨r, vs, p1, ot, rfl, g4, t2, rfl⟩, h1, pmN.nodup_iff.mpr ?_, fun a ha => ?_, s.g0.trans g1, g2, fun a x e => ?_, fun a x e => ?_, fun q hq => by cases hq⟩
  · refine List.nodup_append.mpr ⟨g6, (List.nodup_append.mp nd).2.1, fun a ha b hb e => ?_⟩
    subst e
    rcases (g7 a ha).2 with c | c
    · exact out a hb c
    · obtain ⟨x, ex, _⟩ := thr a hb
      rw [c] at ex; cases ex
  · rcases List.mem_append.mp (pmN.mem_iff.mp ha) with ha | ha
    · obtain ⟨c1, c2⟩ := g7 a ha
      refine ⟨c1, ?_⟩
      rcases c2 with c2 | c2
      · exact (fr a (List.mem_append_left _ c2)).2
      · exact Same.none s.h0 c2
    · refine ⟨?_, (fr a (List.mem_append_right _ ha)).2⟩
      cases q : G' a with
      | none => rfl
      | some x =>
        obtain ⟨x', ex, ne⟩ := thr a ha
        rcases g8 a x q with z | z | z | ⟨xs, z⟩
        · exact absurd (fr a (List.mem_append_right _ ha)).1 z
        · rw [z] at ex; cases ex
        · exact absurd z (out a ha)
        · have := g2 a x q
          rw [g3 a x' (out a ha) ex] at this
          cases this
          exact absurd z (ne xs)
  · have na : a ∉ o1 := fun h => by rw [(fr a (List.mem_append_left _ h)).2] at e; cases e
    exact g3 a x na (s.h0 a x e)
  · rcases g8 a x e with z | z | z | z
    · cases q : G a with
      | none => exact absurd q z
      | some y =>
        have := g1 a y q
        rw [e] at this; cases this
        exact s.nw a x q
    · exact .inr (.inl (Same.none s.h0 z))
    · exact .inr (.inl (fr a (List.mem_append_left _ z)).2)
    · exact .inr (.inr z)
/-- f(p, ..), p a place -/
def eCallM (φ : T → List D → Option (T × T)) (i : Nat) (fo : PF) (fr : AF) : EF := fun env => (fo env).bind fun r => (fr r.2).bind fun s => (allP s.1).bind fun ds => (atP s.2 i r.1).bind fun t0 => (φ t0 ds).map fun z => (z.1, putP s.2 i r.1 z.2)
/-- p.m(..) -/
def eMethM (n m : Str) (φ : T → List D → Option (T × T)) (i : Nat) (fo : PF) (fr : AF) : EF := fun env => (fo env).bind fun r => (atP r.2 i r.1).bind fun t => match unb t with
  | .obj c fs => if c = n ∧ (valT fs m).isNone = true then eCallM φ i (fun _ => some (r.1, r.2)) fr r.2 else none
  | _ => none
section
variable {X : Cx} {k : Nat} {f C : Addr} {fd : FuncData} {ps : List Str} {n : Nat} {φ : T → List D → Option (T × T)} {x m : Str} {p pos apos : Pos} {e o : Expr} {es : List Expr} {to : TE} {fo : PF} {i : Nat} {ta : TA} {fa : AF}
theorem ev_lend (hφ : ∀ t ds r, φ t ds = some r → ds.length = n) (ha : DA X es ta fa) {G0 H0 H : Hp} {ts : List T} {vs : List V} {env : Env} {σ : St} {P : List Stp} {v w : V} (S : OkS X.K G0 H0 [] H ts vs env σ) (hv : σ[i]? = some (some v)) (hc : Ch H P v w) {t : T} {env' : Env}
    (g : (fa env).bind (fun s => (allP s.1).bind fun ds => (atP s.2 i P).bind fun t0 => (φ t0 ds).map fun z => (z.1, putP s.2 i P z.2)) = some (t, env')) {Q : VK} (q : ∀ v H', OkS X.K G0 H0 [] H' (t :: ts) (v :: vs) env' σ → Q v H') :
    ta σ H fun ws H2 => spM n φ X.K (w :: ws) H2 Q E0 := by
  obtain ⟨⟨us, e1⟩, g1, g2⟩ := obind g
  obtain ⟨ds, g3, g4⟩ := obind g2
  obtain ⟨t0, g5, g6⟩ := obind g4
  obtain ⟨⟨t1, t2⟩, g7, g8⟩ := omap g6
  cases g8
  have eu : us = ds.map T.p := allP_eq g3
  subst eu
  refine ha.ok _ _ _ _ _ _ _ _ _ _ S g1 _ fun ws H2 s2 hl S2 => ?_
  obtain ⟨tt, k3, k4⟩ := atP_eq g5
  obtain ⟨G, o1, h1, h2, h3, h4, h5, h6⟩ := S2.lend (by simpa using hl) k3 k4 hv (hc.same s2)
  refine ⟨t0, ds, w, ws, t1, t2, G, o1, rfl, hφ _ _ _ g7, g7, h1, h2, h3, h4, h5, fun r G' H' p1 p2 c1 c2 c3 c4 c5 c6 c7 c8 => ?_⟩
  have S3 := h6 r G' H' p1 p2 t1 t2 c1 c2 c3 c4 c5 c6 c7 c8
  rw [← putP_eq k3] at S3
  exact q r H' S3
theorem dx_callM (hφ : ∀ t ds r, φ t ds = some r → ds.length = n) (F : FnOk X.prog X.w X.K X.mg X.base CX0 k f fd ps (spM n φ X.K)) (hr : Room k X.A) (hg : Gl X x) (hm : X.mg x = some (.ref f)) (hk : PySem.W.keepIn X.K (.ref f) = true) (hb : Binds X.K fd ps [])
    (ho : DP X o to i fo) (ha : DA X es ta fa) (hdb : (x == ("__debug__" : Str)) = false := by decide) (he : starEach (o :: es) X.env = (false, eval o X.env) :: starEach es X.env := by rfl) (hpl : (backTo pos (starEach es X.env)).any (·.1) = false := by rfl) :
    DX X (.Call (.Name x p) (o :: es) [] pos) (tCall (spM n φ X.K) [] E0 (tCons to ta)) (eCallM φ i fo fa) := by
  refine ⟨pe_call F hr hg hm hk hb .nil pass0 (pa_cons ho.pe ha.pa he) hdb he hpl, ?_⟩
  intro G0 H0 H ts vs env σ t env' S g Q q
  obtain ⟨⟨P, e1⟩, g1, g2⟩ := obind g
  refine ho.ok _ _ _ _ _ _ _ _ _ _ S g1 _ fun v w H1 s1 S1 hv hc => ?_
  have := ev_lend hφ ha S1 hv hc g2 q
  show ta σ H1 fun ws H2 => spM n φ X.K ((w :: ws) ++ []) H2 Q E0
  simpa using this
theorem ev_meth {to : TE} (hφ : ∀ t ds r, φ t ds = some r → ds.length = n) {nm : Str} (hn : ClsN X.K nm C) (ho : EvP X.K to i fo) (ha : DA X es ta fa) : EvX X.K (tMeth C m (spM n φ X.K) [] E0 to ta) (eMethM nm m φ i fo fa) := by
  intro G0 H0 H ts vs env σ t env' S g Q q
  obtain ⟨⟨P, e1⟩, g1, g2⟩ := obind g
  obtain ⟨u, g3, g4⟩ := obind g2
  dsimp only at g4
  split at g4
  · rename_i c fs hu
    split at g4
    · rename_i hcn
      obtain ⟨hcn, hno⟩ := hcn
      subst hcn
      refine ho _ _ _ _ _ _ _ _ _ _ S g1 _ fun v w H1 s1 S1 hv hc => ?_
      obtain ⟨tt, k1, k2⟩ := atP_eq g3
      obtain ⟨G, o1, r, sG⟩ := S1.at' k1 k2 hv hc
      have r := r.unb
      rw [hu] at r
      obtain ⟨a, C', dx, ws, o', h1, h0, h2, h3, h4⟩ := r
      have eC : C' = C := by
        have := (show PySem.W.nsIn X.K mainGlobals c = some (some (.ref C')) from h0).symm.trans hn
        cases this; rfl
      subst eC
      refine ⟨a, dx, ws, h1, h2, h3.noVal m (Option.isNone_iff_eq_none.mp hno), ?_⟩
      have := ev_lend hφ ha S1 hv hc (show (fa e1).bind _ = _ from g4) q
      simpa using this
    · cases g4
  · cases g4
theorem dx_meth {nm : Str} {pl : Sem Bool} (hφ : ∀ t ds r, φ t ds = some r → ds.length = n) (hn : ClsN X.K nm C) (c : Cls X.K C) (hm : Meth X.K C m f) (F : FnOk X.prog X.w X.K X.mg X.base CX0 k f fd ps (spM n φ X.K)) (hr : Room k X.A) (hb : Binds X.K fd ps [])
    (ho : DP X o to i fo) (ha : DA X (e :: es) ta fa) (hst : starEach (e :: es) X.env = (false, eval e X.env) :: starEach es X.env := by rfl) (hpl : (backTo pos (starEach es X.env)).any (·.1) = false := by rfl)
    (ht : eval (.Call (.Attribute o m apos) (e :: es) [] pos) X.env = (do
      let ov ← eval o X.env
      standAt apos.atName
      let (f, first) ← holding [ov] (getMethod ov m pl)
      callWith pos f first (backTo pos (starEach (e :: es) X.env)) (backToKw pos (keywordEach [] X.env))) := by rfl) :
    DX X (.Call (.Attribute o m apos) (e :: es) [] pos) (tMeth C m (spM n φ X.K) [] E0 to ta) (eMethM nm m φ i fo fa) := ⟨pe_meth ho.pe c hm F hr hb .nil pass0 ha.pa hst hpl ht, ev_meth hφ hn ho.ok ha⟩
theorem dx_meth0 {nm : Str} {pl : Sem Bool} (hφ : ∀ t ds r, φ t ds = some r → ds.length = n) (hn : ClsN X.K nm C) (c : Cls X.K C) (hm : Meth X.K C m f) (F : FnOk X.prog X.w X.K X.mg X.base CX0 k f fd ps (spM n φ X.K)) (hr : Room k X.A) (hb : Binds X.K fd ps [])
    (ho : DP X o to i fo) (ht : eval (.Call (.Attribute o m apos) [] [] pos) X.env = (do
      let ov ← eval o X.env
      standAt apos.atName
      let (f, first) ← holding [ov] (getMethod ov m pl)
      callWith pos f first (backTo pos (starEach [] X.env)) (backToKw pos (keywordEach [] X.env))) := by rfl) :
    DX X (.Call (.Attribute o m apos) [] [] pos) (tMeth C m (spM n φ X.K) [] E0 to tNil) (eMethM nm m φ i fo aN) := ⟨pe_meth0 ho.pe c hm F hr hb .nil pass0 ht, ev_meth hφ hn ho.ok da_nil⟩
/-- C(..) -/
def eMake (nm : Str) (φ : T → List D → Option (T × T)) (fr : AF) : EF := fun env => (fr env).bind fun s => (allP s.1).bind fun ds => (φ (.obj nm []) ds).bind fun z => match z.1 with
  | .p .non => some (z.2, s.2)
  | _ => none
theorem ev_make (hφ : ∀ t ds r, φ t ds = some r → ds.length = n) {nm : Str} (hn : ClsN X.K nm C) (ha : DA X es ta fa) : EvX X.K (tMake C (spM n φ X.K) [] E0 ta) (eMake nm φ fa) := by
  intro G0 H0 H ts vs env σ t env' S g Q q
  obtain ⟨⟨us, e1⟩, g1, g2⟩ := obind g
  obtain ⟨ds, g3, g4⟩ := obind g2
  obtain ⟨⟨t1, t2⟩, g7, g8⟩ := obind g4
  have hz : t1 = .p .non ∧ t2 = t ∧ e1 = env' := by
    cases t1 with
    | p d => cases d with
      | non => cases g8; exact ⟨rfl, rfl, rfl⟩
      | _ => cases g8
    | _ => cases g8
  obtain ⟨rfl, rfl, rfl⟩ := hz
  · clear g8
    have eu : us = ds.map T.p := allP_eq g3
    subst eu
    refine ha.ok _ _ _ _ _ _ _ _ _ _ S g1 _ fun ws H2 s2 hl S2 => ?_
    intro x dx hx hdx hne
    obtain ⟨G, ot, oe, s⟩ := S2
    obtain ⟨o1, o2, k1, k2, k3⟩ := s.tmp.split (us := ds.map T.p) hl
    obtain ⟨kd, k4⟩ := rpDs_of k1
    subst k4
    have k3 : ot = o2 := k3
    subst k3
    have gx : G x = none := Same.none s.gh hx
    have gdx : G dx = none := Same.none s.gh hdx
    have sH : Same H2 (upd (upd H2 dx (.own x)) x (.ins C dx [])) := fun b u e => by
      rw [upd_ne (fun z => by rw [z, hx] at e; cases e), upd_ne (fun z => by rw [z, hdx] at e; cases e)]; exact e
    have thr : ∀ b ∈ ot ++ oe, ∃ u, H2 b = some u ∧ ∀ xs, u ≠ .tup xs := fun b hb => by
      rcases List.mem_append.mp hb with h | h
      · exact k2.there _ b h
      · exact s.env.there _ b h
    refine ⟨.obj nm [], ds, .ref x, ws, .p .non, t2, G, [x], by simp, hφ _ _ _ g7, g7, s.gh.trans sH, ⟨x, C, dx, [], [], rfl, hn, upd_same, ⟨rfl, rfl⟩, rfl⟩, by simp, fun a ha => by rw [List.mem_singleton.mp ha]; exact gx, by simpa using kd, fun r G' H' p1 p2 c1 c2 c3 c4 c5 c6 c7 c8 => ?_⟩
    have er : r = .non := c4.1
    refine ⟨er, ?_⟩
    have ep : p1 = [] := c4.2
    subst ep
    have kp : ∀ b ∈ ot ++ oe, H' b = H2 b := fun b hb => by
      obtain ⟨u, e, _⟩ := thr b hb
      have : b ∉ [x] := fun z => by rw [List.mem_singleton.mp z, hx] at e; cases e
      rw [e, c3 b u this (sH b u e)]
    have nin : ∀ a ∈ ot ++ oe, a ∉ p2 := fun a ha h => by
      obtain ⟨u, e, _⟩ := thr a ha
      rcases (c7 a (by simpa using h)).2 with z | z
      · rw [List.mem_singleton.mp z, hx] at e; cases e
      · rw [sH a u e] at z; cases z
    refine q (.ref x) H' ⟨G', p2 ++ ot, oe, ⟨.ref x, vs, p2, ot, rfl, c5, k2.mono c1 _ (fun b hb => kp b (List.mem_append_left _ hb)), rfl⟩, s.env.mono c1 _ (fun b hb => kp b (List.mem_append_right _ hb)), ?_, fun a ha => ?_, s.g0.trans c1, c2, fun a u e => ?_, fun a u e => ?_, fun q hq => by cases hq⟩
    · rw [List.append_assoc]
      exact List.nodup_append.mpr ⟨by simpa using c6, s.nd, fun a ha b hb e => nin b hb (e ▸ ha)⟩
    · rw [List.append_assoc] at ha
      rcases List.mem_append.mp ha with ha | ha
      · obtain ⟨d1, d2⟩ := c7 a (by simpa using ha)
        refine ⟨d1, ?_⟩
        rcases d2 with z | z
        · rw [List.mem_singleton.mp z]; exact Same.none s.h0 hx
        · exact Same.none s.h0 (Same.none sH z)
      · refine ⟨?_, (s.fr a ha).2⟩
        cases qq : G' a with
        | none => rfl
        | some u =>
          obtain ⟨u', e, ne⟩ := thr a ha
          rcases c8 a u qq with z | z | z | ⟨xs, z⟩
          · exact absurd (s.fr a ha).1 z
          · rw [sH a u' e] at z; cases z
          · rw [List.mem_singleton.mp z, hx] at e; cases e
          · have h' := c2 a u qq
            rw [kp a ha, e] at h'
            cases h'
            exact absurd z (ne xs)
    · have h2 := s.h0 a u e
      have : a ∉ [x] := fun z => by rw [List.mem_singleton.mp z, hx] at h2; cases h2
      exact c3 a u this (sH a u h2)
    · rcases c8 a u e with z | z | z | z
      · cases qq : G a with
        | none => exact absurd qq z
        | some y =>
          have := c1 a y qq
          rw [e] at this; cases this
          exact s.nw a u qq
      · exact .inr (.inl (Same.none s.h0 (Same.none sH z)))
      · rw [List.mem_singleton.mp z]; exact .inr (.inl (Same.none s.h0 hx))
      · exact .inr (.inr z)
theorem dx_make (hφ : ∀ t ds r, φ t ds = some r → ds.length = n) {nm : Str} (hn : ClsN X.K nm C) (M : Mk X.K C f) (F : FnOk X.prog X.w X.K X.mg X.base CX0 k f fd ps (spM n φ X.K)) (hr : Room (k + 1) X.A) (hg : Gl X x) (hm : X.mg x = some (.ref C)) (hb : Binds X.K fd ps [])
    (ha : DA X (e :: es) ta fa) (hdb : (x == ("__debug__" : Str)) = false := by decide) (he : starEach (e :: es) X.env = (false, eval e X.env) :: starEach es X.env := by rfl) (hpl : (backTo pos (starEach es X.env)).any (·.1) = false := by rfl) :
    DX X (.Call (.Name x p) (e :: es) [] pos) (tMake C (spM n φ X.K) [] E0 ta) (eMake nm φ fa) := ⟨pe_make M F hr hg hm hb .nil pass0 ha.pa hdb he hpl, ev_make hφ hn ha⟩
theorem dx_make0 (hφ : ∀ t ds r, φ t ds = some r → ds.length = n) {nm : Str} (hn : ClsN X.K nm C) (M : Mk X.K C f) (F : FnOk X.prog X.w X.K X.mg X.base CX0 k f fd ps (spM n φ X.K)) (hr : Room (k + 1) X.A) (hg : Gl X x) (hm : X.mg x = some (.ref C)) (hb : Binds X.K fd ps [])
    (hdb : (x == ("__debug__" : Str)) = false := by decide) : DX X (.Call (.Name x p) [] [] pos) (tMake C (spM n φ X.K) [] E0 tNil) (eMake nm φ aN) := ⟨pe_make0 M F hr hg hm hb .nil pass0 hdb, ev_make hφ hn da_nil⟩
end
end DL

set_option Elab.async false
set_option linter.all false
set_option maxRecDepth 100000
set_option maxHeartbeats 1000000
/-! Comprehensions whose items change what stands; op= at places. -/
namespace DL
open PySem PySem.Spec PyProof.Rows L2
theorem ev_compX {K : PySem.W.Frag} {wi : TI} {fi : IF} {g : TG} {G : GF} {sl own : List Nat} {tt : TT} {ct : CF} {te : TE} {fe : EF} (hI : EvI K wi fi) (hg : EvG K g G sl) (hsl : ∀ j ∈ sl, j ∈ own) (ht : EvC K tt ct) (he : EvX K te fe) : EvX K (tLc wi g tt te own) (eComp own fi G ct fe) := by
  intro G0 H0 H ts vs env σ t env' S e Q q
  obtain ⟨⟨ds, e1⟩, g1, g2⟩ := obind e
  by_cases hlen : ds.length ≤ 1000000
  · rw [if_pos hlen] at g2
    obtain ⟨⟨us, e2⟩, g3, g4⟩ := omap g2
    cases g4
    refine hI _ _ _ _ _ _ _ _ _ _ S g1 _ fun J H1 G1 s1 gst I S1 => ?_
    intro D hD
    have S3 : OkS K G1 H0 [] (upd H1 D (.lst [])) (.lst [] :: ts) (.ref D :: vs) (wipeE e1 own) (wipe σ own) := (OkS.newL (us := []) (ws := []) rfl S1 hD).toWipe own
    refine ⟨fun i m H => m = ds.length - i ∧ i ≤ ds.length ∧ ∃ env acc rest, OkS K G1 H0 [] H (.lst acc :: ts) (.ref D :: vs) env (wipe σ own) ∧ compD own G ct fe (ds.drop i) env = some (rest, e2) ∧ us = acc ++ rest ∧ acc.length ≤ i ∧ (∀ (j : Nat) (t : T), env[j]? = some (some t) → j ∉ own),
      ⟨ds.length, by simp, Nat.zero_le _, wipeE e1 own, [], us, S3, by simpa using g3, rfl, Nat.le_refl _, fun j t e => (wipeE_some e).1⟩, ?_⟩
    rintro i m Hi ⟨rfl, hle, envi, acc, rest, Si, hc, hu, ha, hw0⟩
    by_cases hlt : i < ds.length
    · refine .inr ⟨I.go i Hi Si.same hlt, fun H' => i + 1 ≤ ds.length ∧ ∃ env acc rest, OkS K G1 H0 [] H' (.lst acc :: ts) (.ref D :: vs) env (wipe σ own) ∧ compD own G ct fe (ds.drop (i + 1)) env = some (rest, e2) ∧ us = acc ++ rest ∧ acc.length ≤ i + 1 ∧ (∀ (j : Nat) (t : T), env[j]? = some (some t) → j ∉ own), fun H' ⟨h1, h2⟩ => ⟨ds.length - (i + 1), by omega, rfl, h1, h2⟩, fun x H3 y => ?_⟩
      obtain ⟨s3, S4⟩ := I.item Si (List.getElem?_eq_getElem hlt) y
      rw [List.drop_eq_getElem_cons hlt] at hc
      obtain ⟨e3, l1, l2⟩ := obind hc
      obtain ⟨⟨b, e4⟩, l3, l4⟩ := obind l2
      refine hg _ _ _ _ _ _ _ _ _ _ _ S4 l1 _ fun σ2 S5 dif => ?_
      have hw : wipe σ2 own = wipe σ own := by
        refine wipe_eq (dif.1.trans (wipe_length _ _)) fun j hj => (dif.2 j fun z => hj (hsl j z)).trans (wipe_out' hj)
      have again : ∀ {H4 : Hp} {e5 : Env} {acc' : List T}, OkS K G1 H0 [] H4 (.lst acc' :: ts) (.ref D :: vs) e5 σ2 → OkS K G1 H0 [] H4 (.lst acc' :: ts) (.ref D :: vs) (wipeE e5 own) (wipe σ own) := fun S => by
        rw [← hw]; exact S.toWipe own
      refine ⟨hw, ?_⟩
      refine ht _ _ _ _ _ _ _ _ _ _ S5 l3 _ fun H4 s4 S6 => ?_
      cases b with
      | false =>
        rw [if_neg Bool.false_ne_true]
        exact ⟨hlt, _, acc, rest, again S6, l4, hu, by omega, fun j t e => (wipeE_some e).1⟩
      | true =>
        rw [if_pos rfl]
        obtain ⟨⟨u, e5⟩, l5, l6⟩ := obind (show (fe e4).bind (fun s => (compD own G ct fe (ds.drop (i + 1)) (wipeE s.2 own)).map fun z => (s.1 :: z.1, z.2)) = some (rest, e2) from l4)
        obtain ⟨⟨zs, e6⟩, l7, l8⟩ := omap l6
        cases l8
        refine he _ _ _ _ _ _ _ _ _ S6 l5 _ fun y H5 S7 => ?_
        have S8 : OkS K G1 H0 [] H5 (.lst acc :: ([u] ++ ts)) (.ref D :: ([y] ++ vs)) e5 σ2 := OkS.mid (us := [u]) (ws := [y]) (x := .lst acc) (y := .ref D) rfl S7
        obtain ⟨a, xs, k1, k2, k3, k4⟩ := OkS.wrL (es := [u]) (ws := [y]) S8 rfl
        cases k1
        exact ⟨xs, k2, by rw [k3, sizeLine_eq]; omega, hlt, _, acc ++ [u], zs, again (k4 (acc ++ [u]) (xs ++ [y]) fun G o1 o2 r1 r2 => ⟨o1 ++ o2, [], r1.append r2, by simp⟩), l7, by rw [hu]; simp, by simp; omega, fun j t e => (wipeE_some e).1⟩
    · have hi' : i = ds.length := by omega
      subst hi'
      rw [List.drop_length] at hc
      cases hc
      rw [List.append_nil] at hu
      subst hu
      have Sf : OkS K G1 H0 [] Hi (.lst us :: ts) (.ref D :: vs) e2 σ := Si.slots (by rw [wipe_length]) fun j t e => (wipe_out' (hw0 j t e)).symm
      exact .inl ⟨I.stop Hi Si.same, q _ Hi (Sf.back gst)⟩
  · rw [if_neg hlen] at g2; cases g2
def teX (K : PySem.W.Frag) (f : EF) : TE := fun σ H Q => ∃ (G0 H0 : Hp) (ts : List T) (vs : List V) (env : Env) (t : T) (env' : Env), OkS K G0 H0 [] H ts vs env σ ∧ f env = some (t, env') ∧ ∀ v H', OkS K G0 H0 [] H' (t :: ts) (v :: vs) env' σ → Q v H'
theorem ev_teX {K : PySem.W.Frag} {f : EF} : EvX K (teX K f) f := fun G0 H0 H ts vs env σ t env' S e Q q => ⟨G0, H0, ts, vs, env, t, env', S, e, q⟩
theorem pe_X {X : Cx} {e : Expr} {te : TE} {f : EF} (h : DX X e te f) : PE X e (teX X.K f) := ⟨fun pins s σ H Q I ⟨_, _, _, _, _, _, _, S, g, q⟩ => h.pe.run pins s σ H Q I (h.ok _ _ _ _ _ _ _ _ _ S g Q q)⟩
section
variable {X : Cx} {elt tg iter : Expr} {ifs : List Expr} {scope : Scope} {own : List (Str × Nat)} {pos spos py : Pos} {wi : TI} {fi : IF} {g : Shared → Hp → Addr → List (Str × Addr) → List Addr → TG} {G : GF} {sl : List Nat} {tt : Shared → Hp → Addr → List (Str × Addr) → List Addr → TT} {ct : CF} {te : Shared → Hp → Addr → List (Str × Addr) → List Addr → TE} {fe : EF} {i : Nat} {y : Str}
theorem dx_comp (hc : X.calm = true) (hN : X.N.Nodup) (hi : DI X tg iter wi fi) (ok : BlkOk X.N X.env.scope scope own)
    (hg : ∀ (s : Shared) (H : Hp) (C : Addr) (cl : List (Str × Addr)) (fp : List Addr), DG (X.blk s H scope (compEnvC scope cl C X.env) fp) tg (g s H C cl fp) G sl) (ht : ∀ (s : Shared) (H : Hp) (C : Addr) (cl : List (Str × Addr)) (fp : List Addr), DTs (X.blk s H scope (compEnvC scope cl C X.env) fp) ifs (tt s H C cl fp) ct)
    (he : ∀ (s : Shared) (H : Hp) (C : Addr) (cl : List (Str × Addr)) (fp : List Addr), DX (X.blk s H scope (compEnvC scope cl C X.env) fp) elt (te s H C cl fp) fe) (hsl : ∀ j ∈ sl, j ∈ own.map (·.2) := by decide) (hs : ∀ x, foldedSetIterable iter X.env x = pure x := by intro _; rfl) :
    DX X (.ListComp elt [⟨tg, iter, ifs, 0⟩] scope pos) (tLc wi (tgW X.K G sl) (ttW X.K ct) (teX X.K fe) (own.map (·.2))) (eComp (own.map (·.2)) fi G ct fe) :=
  ⟨pe_lc hc hN hi.pi ok (fun s H C cl fp => pg_W (hg s H C cl fp)) (fun s H C cl fp => pts_W (ht s H C cl fp)) (fun s H C cl fp => pe_X (he s H C cl fp)) hs,
    ev_compX hi.ok ev_tgW hsl ev_ttW ev_teX⟩
theorem evs_setX {K : PySem.W.Frag} {i : Nat} {te : TE} {f : EF} (h : EvX K te f) : EvS K (tAsg te (gName i)) (sSet i f) [i] := by
  intro G0 H0 H ts vs env σ fl env' S g D q
  obtain ⟨⟨x, e1⟩, g1, g2⟩ := obind g
  by_cases hi : i < e1.length
  · rw [if_pos hi] at g2
    cases g2
    exact h _ _ _ _ _ _ _ _ _ S g1 _ fun v H' S' => q H' _ (S'.put hi) .set
  · rw [if_neg hi] at g2; cases g2
theorem ds_setLcX (hc : X.calm = true) (hN : X.N.Nodup) (hy : X.N[i]? = some y) (hyl : X.env.scope.names.lookup y = some .local)
    (hsw : swapsWith (.ListComp elt [⟨tg, iter, ifs, 0⟩] scope pos) (some (.Name y py)) spos.line X.env = pure true) (hi : DI X tg iter wi fi) (ok : BlkOk X.N X.env.scope scope own)
    (hg : ∀ (s : Shared) (H : Hp) (C : Addr) (cl : List (Str × Addr)) (fp : List Addr), DG (X.blk s H scope (compEnvC scope cl C X.env) fp) tg (g s H C cl fp) G sl) (ht : ∀ (s : Shared) (H : Hp) (C : Addr) (cl : List (Str × Addr)) (fp : List Addr), DTs (X.blk s H scope (compEnvC scope cl C X.env) fp) ifs (tt s H C cl fp) ct)
    (he : ∀ (s : Shared) (H : Hp) (C : Addr) (cl : List (Str × Addr)) (fp : List Addr), DX (X.blk s H scope (compEnvC scope cl C X.env) fp) elt (te s H C cl fp) fe) (hsl : ∀ j ∈ sl, j ∈ own.map (·.2) := by decide) (hs : ∀ x, foldedSetIterable iter X.env x = pure x := by intro _; rfl) :
    DS X (.Assign [.Name y py] (.ListComp elt [⟨tg, iter, ifs, 0⟩] scope pos) spos) (tAsg (tLc wi (tgW X.K G sl) (ttW X.K ct) (teX X.K fe) (own.map (·.2))) (gName i)) (sSet i (eComp (own.map (·.2)) fi G ct fe)) [i] :=
  ⟨ps_setLc hc hN hy hyl hsw hi.pi ok (fun s H C cl fp => pg_W (hg s H C cl fp)) (fun s H C cl fp => pts_W (ht s H C cl fp)) (fun s H C cl fp => pe_X (he s H C cl fp)) hs,
    evs_setX (ev_compX hi.ok ev_tgW hsl ev_ttW ev_teX)⟩
end
/-! ### op= at places -/
theorem pip_in {X : Cx} {op : Operator} {t : TIp} (h : PIp X op t) : InOp X op t := fun pins s σ H x y u v Q I rx ry g => h pins s σ H x y u v Q I rx ry g
def isO : T → Bool
  | .obj _ _ => true
  | _ => false
/-- p.f op= e of ints -/
def sAugF (n a : Str) (hh : Int → Int → Int) (i : Nat) (fo : PF) (f : EF) : SF := fun env => (fo env).bind fun r => (atP r.2 i r.1).bind fun t0 => (valF n a (unb t0)).bind fun u => (asI u).bind fun x0 => (f r.2).bind fun y => (asI y.1).bind fun y0 => (atP y.2 i r.1).bind fun t1 => match unb t1 with
  | .obj m fs => if m = n ∧ fs.length < 900 ∧ isO (unb t0) = true then some (.nx, putP y.2 i r.1 (reb t1 (.obj m (putFT fs a (.p (.int (hh x0 y0))))))) else none
  | _ => none
/-- p[k] op= e of ints, p a dict -/
def sAugK (hh : Int → Int → Int) (i : Nat) (fo : PF) (fk f : EF) : SF := fun env => (fo env).bind fun r => (fk r.2).bind fun s => (keyT s.1).bind fun k => (atP s.2 i r.1).bind fun t0 => match unb t0 with
  | .dic kvs0 => (valT kvs0 k).bind fun u => (asI u).bind fun x0 => (f s.2).bind fun y => (asI y.1).bind fun y0 => (atP y.2 i r.1).bind fun t1 => match unb t1 with
    | .dic kvs => if kvs.length < 16000000 then some (.nx, putP y.2 i r.1 (reb t1 (.dic (putT kvs k (.p (.int (hh x0 y0))))))) else none
    | _ => none
  | _ => none
section
variable {X : Cx} {e o k : Expr} {te to tk : TE} {f fk : EF} {fo : PF} {i : Nat} {pos ipos tpos : Pos}
theorem ds_augK {op : Operator} {hh : Int → Int → Int} (hu : X.A.units + 1 < cLine) (hop : PIp X op (ipI hh)) (ho : DP X o to i fo) (hk : DT X k tk fk) (h : DT X e te f)
    (ha : ∀ ov iv new, augStore k ov iv new = (do holding [new, ov, iv] (setItem ov iv new); release [new, ov, iv] []; pure .next) := by intros; rfl) : DS X (.AugAssign (.Subscript o k tpos) op e pos) (sDAug to tk te (ipI hh)) (sAugK hh i fo fk f) [] := by
  refine ⟨ps_daug hu ho.pe hk.pe h.pe (pip_in hop) ha, ?_⟩
  intro G0 H0 H ts vs env σ fl env' S g D q
  obtain ⟨⟨P, e1⟩, g1, g2⟩ := obind g
  obtain ⟨⟨z, e2⟩, g3, g4⟩ := obind g2
  obtain ⟨kk, g5, g6⟩ := obind g4
  obtain ⟨t0, g7, g8⟩ := obind g6
  dsimp only at g8
  split at g8
  · rename_i kvs0 hu0
    obtain ⟨u, g9, g10⟩ := obind g8
    obtain ⟨x0, g11, g12⟩ := obind g10
    obtain ⟨⟨y, e3⟩, g13, g14⟩ := obind g12
    obtain ⟨y0, g15, g16⟩ := obind g14
    obtain ⟨t1, g17, g18⟩ := obind g16
    dsimp only at g18
    split at g18
    · rename_i kvs hun
      split at g18
      · rename_i hl
        cases g18
        have eu := asI_eq g11
        subst eu
        have ey : y = .p (.int y0) := asI_eq g15
        subst ey
        cases z with
        | p kd =>
          refine ho.ok _ _ _ _ _ _ _ _ _ _ S g1 _ fun v w H1 s1 S1 hv hc => ?_
          refine hk.ok _ _ _ _ _ _ _ _ _ _ S1 g3 _ fun kx H2 s2 S2 => ?_
          have ek : kx = L2.kV kk := keyD_rp (show keyD kd = some kk from g5) S2.top
          have hc2 := hc.same s2
          obtain ⟨tt0, k1, k2⟩ := atP_eq g7
          obtain ⟨G, o1, r, sG⟩ := S2.pop.at' k1 k2 hv hc2
          have r := r.unb
          rw [hu0] at r
          obtain ⟨a, ws0, o', h1, h2, h3, h4⟩ := r
          subst h1
          obtain ⟨w0, p1, p2, c1, c2, _⟩ := h3.foc g9
          have ew0 : w0 = .int x0 := c2.1
          subst ew0
          refine ⟨a, .int x0, rfl, by rw [ek, ← c1]; exact DGet.k h2, ?_⟩
          refine h.ok _ _ _ _ _ _ _ _ _ _ S2.pop g13 _ fun y2 H3 s3 S3 => ?_
          have ey2 : y2 = .int y0 := S3.top
          subst ey2
          refine ⟨x0, y0, rfl, rfl, ?_⟩
          obtain ⟨tt, k3, k4⟩ := atP_eq g17
          obtain ⟨G2, p1', p2', r1, r2, nd, sG2, fr, wr⟩ := OkS.wr (es := []) (ws := []) S3.pop rfl k3 k4 hv (hc2.same s3)
          have ru := r1.unb
          rw [hun] at ru
          obtain ⟨a', xs, o2, h1', h2', h3', h4'⟩ := ru
          cases h1'
          subst h4'
          have e2' : p2' = [] := r2.2
          subst e2'
          have na : a ∉ o2 := fun hm => (List.nodup_cons.mp (show (a :: (o2 ++ [])).Nodup from nd)).1 (by simp [hm])
          refine ⟨_, by rw [ek]; exact DPut.k h2' (by rw [h3'.len, sizeLine_eq]; omega), ?_⟩
          have m1 := h3'.mono (Same.refl G2) (H' := upd H3 a (.dK (putK xs kk (.int (hh x0 y0))))) _ (wN na)
          obtain ⟨o5, rest, f1, f2⟩ := m1.put (t := .p (.int (hh x0 y0))) (v := .int (hh x0 y0)) (o' := []) (k := kk) ⟨rfl, rfl⟩ rfl
          have S4 := wr a (.dK (putK xs kk (.int (hh x0 y0)))) (reb t1 (.dic (putT kvs kk (.p (.int (hh x0 y0)))))) [] [] (a :: o5) [] rest (by simp) (r1.reb ⟨a, _, _, rfl, upd_same, f1, rfl⟩) ⟨rfl, rfl⟩ (by
            simp only [List.cons_append, List.append_nil] at f2 ⊢
            exact List.Perm.cons a f2)
          rw [← putP_eq k3] at S4
          exact q _ _ S4 .rfl'
        | _ => cases g5
      · cases g18
    · cases g18
  · cases g8
theorem ds_augF {op : Operator} {n a : Str} {hh : Int → Int → Int} (hA : Att X.K n a) (hop : PIp X op (ipI hh)) (ho : DP X o to i fo) (h : DT X e te f) : DS X (.AugAssign (.Attribute o a tpos) op e pos) (sFldAug X.K to te (ipI hh) a) (sAugF n a hh i fo f) [] := by
  refine ⟨ps_fldaug ho.pe h.pe (pip_in hop), ?_⟩
  intro G0 H0 H ts vs env σ fl env' S g D q
  obtain ⟨⟨P, e1⟩, g1, g2⟩ := obind g
  obtain ⟨t0, g7, g8⟩ := obind g2
  obtain ⟨u, g9, g10⟩ := obind g8
  obtain ⟨x0, g11, g12⟩ := obind g10
  obtain ⟨⟨y, e3⟩, g13, g14⟩ := obind g12
  obtain ⟨y0, g15, g16⟩ := obind g14
  obtain ⟨t1, g17, g18⟩ := obind g16
  dsimp only at g18
  split at g18
  · rename_i m fs hun
    split at g18
    · rename_i hl
      obtain ⟨hm, hl, hob⟩ := hl
      subst hm
      cases g18
      have eu := asI_eq g11
      subst eu
      have ey : y = .p (.int y0) := asI_eq g15
      subst ey
      refine ho.ok _ _ _ _ _ _ _ _ _ _ S g1 _ fun v w H1 s1 S1 hv hc => ?_
      obtain ⟨tt0, k1, k2⟩ := atP_eq g7
      obtain ⟨G, o1, r, sG⟩ := S1.at' k1 k2 hv hc
      have r := r.unb
      cases hu0 : unb t0 with
      | obj c fs0 =>
        rw [hu0] at r g9
        replace g9 : (if c = m then valT fs0 a else none) = some (.p (.int x0)) := g9
        split at g9
        · rename_i hcm
          subst hcm
          obtain ⟨ad, C, dx, ws0, o', h1, h0, h2, h3, h4⟩ := r
          subst h1
          obtain ⟨w0, p1, p2, c1, c2, _⟩ := h3.foc g9
          have ew0 : w0 = .int x0 := c2.1
          subst ew0
          obtain ⟨a1, a2⟩ := hA C h0
          refine ⟨ad, C, dx, ws0, .int x0, rfl, h2, a1, a2, c1, ?_⟩
          refine h.ok _ _ _ _ _ _ _ _ _ _ S1 g13 _ fun y2 H3 s3 S3 => ?_
          have ey2 : y2 = .int y0 := S3.top
          subst ey2
          refine ⟨x0, y0, rfl, rfl, ?_⟩
          obtain ⟨tt, k3, k4⟩ := atP_eq g17
          obtain ⟨G2, p1', p2', r1, r2, nd, sG2, fr, wr⟩ := OkS.wr (es := []) (ws := []) S3.pop rfl k3 k4 hv (hc.same s3)
          have ru := r1.unb
          rw [hun] at ru
          obtain ⟨ad', C', dx', xs, o2, h1', h0', h2', h3', h4'⟩ := ru
          cases h1'
          subst h4'
          have eC : C' = C := by
            have := (show PySem.W.nsIn X.K mainGlobals c = some (some (.ref C')) from h0').symm.trans h0
            cases this; rfl
          subst eC
          have e2' : p2' = [] := r2.2
          subst e2'
          have na : ad ∉ o2 := fun hm => (List.nodup_cons.mp (show (ad :: (o2 ++ [])).Nodup from nd)).1 (by simp [hm])
          refine ⟨dx', xs, h2', by rw [h3'.len]; omega, ?_⟩
          have m1 := h3'.mono (Same.refl G2) (H' := upd H3 ad (.ins C' dx' (putF a (.int (hh x0 y0)) xs))) _ (wN na)
          obtain ⟨o5, rest, f1, f2⟩ := m1.put (t := .p (.int (hh x0 y0))) (v := .int (hh x0 y0)) (o' := []) (f := a) ⟨rfl, rfl⟩
          have S4 := wr ad (.ins C' dx' (putF a (.int (hh x0 y0)) xs)) (reb t1 (.obj c (putFT fs a (.p (.int (hh x0 y0)))))) [] [] (ad :: o5) [] rest (by simp) (r1.reb ⟨ad, C', dx', _, _, rfl, h0', upd_same, f1, rfl⟩) ⟨rfl, rfl⟩ (by
            simp only [List.cons_append, List.append_nil] at f2 ⊢
            exact List.Perm.cons ad f2)
          rw [← putP_eq k3] at S4
          exact q _ _ S4 .rfl'
        · cases g9
      | p d => rw [hu0] at hob; cases hob
      | lst d => rw [hu0] at hob; cases hob
      | tup d => rw [hu0] at hob; cases hob
      | dic d => rw [hu0] at hob; cases hob
      | dit d => rw [hu0] at hob; cases hob
      | box _ d => rw [hu0] at hob; cases hob
      | al d => rw [hu0] at hob; cases hob
    · cases g18
  · cases g18
end
end DL

set_option Elab.async false
set_option linter.all false
set_option maxRecDepth 100000
set_option maxHeartbeats 1000000
/-! list(d), list(d.values()), dict(..). -/
namespace DB
open PySem PySem.Spec PyProof.Rows L2
theorem vals_keys : ∀ {kvs : List (Key × V)} {vs : List (Key × Value)} {its : List Value}, KV kvs vs → its.length = vs.length → (∀ (j : Nat) (v : Value), its[j]? = some v → ∃ (k : Key) (x : Value), vs[j]? = some (k, x) ∧ keyIs k v = true) → Vals (kvs.map fun kv => L2.kV kv.1) its
  | [], _, its, .nil, hl, _ => by
    cases its with
    | nil => exact .nil
    | cons _ _ => simp at hl
  | (k, y) :: kvs, _, its, .cons h t, hl, hp => by
    cases its with
    | nil => simp at hl
    | cons v its =>
      rename_i q vs
      obtain ⟨k', x, e1, e2⟩ := hp 0 v rfl
      have e1 : q = (k', x) := Option.some.inj e1
      subst e1
      refine .cons ?_ (vals_keys t (by simpa using hl) fun j u e => hp (j + 1) u (by simpa using e))
      show RelV (L2.kV k) v
      rw [show k = k' from h.1]
      exact relV_key e2
theorem vals_vals : ∀ {kvs : List (Key × V)} {vs : List (Key × Value)} {its : List Value}, KV kvs vs → its.length = vs.length → (∀ (j : Nat) (v : Value), its[j]? = some v → ∃ (k : Key), vs[j]? = some (k, v)) → Vals (kvs.map fun kv => kv.2) its
  | [], _, its, .nil, hl, _ => by
    cases its with
    | nil => exact .nil
    | cons _ _ => simp at hl
  | (k, y) :: kvs, _, its, .cons h t, hl, hp => by
    cases its with
    | nil => simp at hl
    | cons v its =>
      rename_i q vs
      obtain ⟨k', e1⟩ := hp 0 v rfl
      have e1 : q = (k', v) := Option.some.inj e1
      subst e1
      exact .cons h.2 (vals_vals t (by simpa using hl) fun j u e => hp (j + 1) u (by simpa using e))
/-- the object behind a dict, locked or not -/
theorem dict_at {X : Cx} {pins : List (Addr × Obj)} {σ : L2.St} {H : Hp} {s : Shared} {a : Addr} {kvs : List (Key × V)} (I : Inv X pins σ H s) (h : Rd H a (.dK kvs)) : ∃ vs, kvs.length ≤ sizeLine ∧ (a == sysModules) = false ∧ KV kvs vs ∧ s.heap.DictOf (mixKind X.prog X.w) a vs := by
  rcases h with h | ⟨o, h⟩
  · obtain ⟨h1, h2, vs, h3, h4⟩ := I.hok a _ h
    exact ⟨vs, h1, h2, h3, h4⟩
  · obtain ⟨_, ⟨h1, h2, vs, h3, h4⟩⟩ := I.hok a _ h
    exact ⟨vs, h1, h2, h3, h4⟩
/-- list(d) -/
theorem call_listD {X : Cx} (hc : X.calm = true) : CallR X (.type "list") (fun xs H Q => ∃ (a : Addr) (kvs : List (Key × V)), xs = [.ref a] ∧ Rd H a (.dK kvs) ∧ ∀ p, H p = none → Q (.ref p) (upd H p (.lst (kvs.map fun kv => L2.kV kv.1)))) := by
  intro pins s σ H xs us Q I r q
  obtain ⟨a, kvs, rfl, hd, q⟩ := q
  obtain ⟨u, rfl, rx⟩ := vals1 r
  cases rx
  obtain ⟨vs, hz, h0, kv, hdo⟩ := dict_at I hd
  obtain ⟨ep, hat⟩ := hdo.dictAt
  have ln : kvs.length = vs.length := Paired.length kv
  refine PySem.W.kdl_call (PySem.W.kdl_dict (knd := mixKind X.prog X.w) (kvs := vs) (ep := ep) h0) (I.ok.hd hc) hat (by omega) fun h' tk acc c kp hS hI => ?_
  have vl : Vals (kvs.map fun kv => L2.kV kv.1) acc.toList := vals_keys kv (by rw [Array.length_toList]; exact hI.1) fun j v e => hI.2 j v (by rw [← Array.getElem?_toList]; exact e)
  exact ⟨.ref s.heap.objs.size, _, I.laid (t' := tk) kp (Nat.le_refl _) (show ObjOk X.prog X.w _ h' _ (.lst (kvs.map fun kv => L2.kV kv.1)) from ⟨by rw [List.length_map]; exact hz, acc.toList, c, vl, by rw [Array.toArray_toList]; exact hS⟩), rfl, q _ (I.hok.fresh (Nat.le_refl _))⟩
def tListVals (te : TE) : TE := fun σ H Q => te σ H fun x H1 => ∃ (a : Addr) (kvs : List (Key × V)), x = .ref a ∧ Rd H1 a (.dK kvs) ∧ ∀ p, H1 p = none → Q (.ref p) (upd H1 p (.lst (kvs.map fun kv => kv.2)))
/-- list(e.values()) -/
theorem pe_listVals {X : Cx} {e : Expr} {te : TE} {p apos cpos pos : Pos} (hc : X.calm = true) (he : PE X e te) (hg : Gl X "list") (hm : X.mg "list" = none) (hv : bootBuiltins "list" = some (.type "list")) (hbase : attributeBase e "values" X.env (eval e X.env) = eval e X.env := by rfl) (hline : (apos.endLine == cpos.line) = true := by rfl)
    (hs : starEach [.Call (.Attribute e "values" apos) [] [] cpos] X.env = (false, eval (.Call (.Attribute e "values" apos) [] [] cpos) X.env) :: starEach [] X.env := by rfl) : PE X (.Call (.Name "list" p) [.Call (.Attribute e "values" apos) [] [] cpos] [] pos) (tListVals te) := by
  refine ⟨fun pins s σ H Q I hq => ?_⟩
  refine wpAny_Call_Name_kw (ld_blt I hg hm hv (PyProof.Rows.callWith_type1 ?_ hs rfl)); rw [hs]
  show wpAny _ _ (spliced ((false, eval (.Call (.Attribute e "values" apos) [] [] cpos) X.env) :: backTo pos (starEach [] X.env))) _ _ s; refine Calls.spliced_cons ?_
  refine wpAny_Call_method (T := "dict") (id := "dict.values") hbase rfl hline PySem.F.plainAttrs_dict PySem.F.slot_dict_values PySem.F.type_dict_values (thn (he.run pins s σ H _ I hq) fun u s1 ⟨x, H1, I1, rx, d, kvs, ex, hd, q⟩ => ?_)
  subst ex
  obtain rfl : u = Value.ref d := rx
  obtain ⟨vs, hz, h0, kv, hdo⟩ := dict_at I1 hd
  obtain ⟨ep, hat⟩ := hdo.dictAt
  have ln : kvs.length = vs.length := Paired.length kv
  have I2 : Inv X pins σ H1 { s1 with heap := s1.heap.push { cls := .type "dict_values", data := .fields #[.ref d] } } := I1.kept (t' := s1.toks) fun b ob q => Heap.get?_push_of_some _ q
  refine ⟨hdo.typeIs, hdo.mapOf.noDict, ?_⟩
  show wpAny _ _ (callWith cpos (.builtin "dict.values") [.ref d] [] []) _ X.xe s1
  refine method_meetsIn PySem.F.slot_dict_values PySem.F.entry_dict_values rfl (PySem.evalArgs_none ⟨rfl, hdo.typeIs, PySem.F.args_dict_values_1 _, _, meets_dict_values (mixKind X.prog X.w) d h0, ⟨vs, hdo⟩, Calls.spliced_nil ?_⟩)
  refine PySem.W.kdl_call (PySem.W.kdl_values (knd := mixKind X.prog X.w) (kvs := vs) (ep := ep)) (I1.ok.hd hc) ⟨⟨_, Heap.get?_push_size _ rfl, rfl, rfl⟩, hat.push _⟩ (by omega) fun h' tk acc c kp hS hI => ?_
  have vl : Vals (kvs.map fun kv => kv.2) acc.toList := vals_vals kv (by rw [Array.length_toList]; exact hI.1) fun j v e => hI.2 j v (by rw [← Array.getElem?_toList]; exact e)
  exact ⟨.ref _, _, I2.laid (t' := tk) kp (Nat.le_refl _) (show ObjOk X.prog X.w _ h' _ (.lst (kvs.map fun kv => kv.2)) from ⟨by rw [List.length_map]; exact hz, acc.toList, c, vl, by rw [Array.toArray_toList]; exact hS⟩), rfl, q _ (I2.hok.fresh (Nat.le_refl _))⟩
end DB
namespace DL
open PySem PySem.Spec PyProof.Rows L2
def kD : Key → D
  | .inl i => .int i
  | .inr s => .str s
theorem kD_rp {K : PySem.W.Frag} {G : Hp} (k : Key) : RpD K G (kD k) (L2.kV k) := by
  cases k with
  | inl i => exact rfl
  | inr s => exact rfl
theorem kD_rps {K : PySem.W.Frag} {G : Hp} : ∀ ks : List Key, RpDs K G (ks.map kD) (ks.map L2.kV)
  | [] => rfl
  | k :: ks => ⟨_, _, rfl, kD_rp k, kD_rps ks⟩
def keysT : T → Option (List Key)
  | .dic kvs => some (kvs.map (·.1))
  | .p (.dic kvs) => some (kvs.map (·.1))
  | _ => none
theorem RpTk.keys {K : PySem.W.Frag} {G H : Hp} : ∀ {kvs : List (Key × T)} {xs : List (Key × V)} {o : List Addr}, RpTk K G H kvs xs o → xs.map (·.1) = kvs.map (·.1)
  | [], _, _, h => by rw [h.1]; rfl
  | (j, d) :: r, _, _, ⟨v, r', o1, o2, h1, h2, h3, h4⟩ => by rw [h1, List.map_cons, List.map_cons, RpTk.keys h3]
theorem RpKs.keys {K : PySem.W.Frag} {G : Hp} : ∀ {kvs : List (Key × D)} {xs : List (Key × V)}, RpKs K G kvs xs → xs.map (·.1) = kvs.map (·.1)
  | [], _, h => by rw [show _ = _ from h]; rfl
  | (j, d) :: r, _, ⟨v, r', h1, h2, h3⟩ => by rw [h1, List.map_cons, List.map_cons, RpKs.keys h3]
theorem RpKs.vals {K : PySem.W.Frag} {G : Hp} : ∀ {kvs : List (Key × D)} {xs : List (Key × V)}, RpKs K G kvs xs → RpDs K G (kvs.map (·.2)) (xs.map (·.2))
  | [], _, h => by rw [show _ = _ from h]; exact rfl
  | (j, d) :: r, _, ⟨v, r', h1, h2, h3⟩ => by subst h1; exact ⟨v, _, rfl, h2, RpKs.vals h3⟩
section
variable {K : PySem.W.Frag} {G0 H0 H : Hp} {W : List (T × V)} {ts : List T} {vs : List V} {env : Env} {σ : St} {t : T} {v : V}
theorem OkS.keys {ks : List Key} (S : OkS K G0 H0 ((t, v) :: W) H ts vs env σ) (h : keysT (unb t) = some ks) : ∃ a xs, v = .ref a ∧ Rd H a (.dK xs) ∧ xs.map (·.1) = ks := by
  obtain ⟨G, ot, oe, s⟩ := S
  obtain ⟨o, r⟩ : ∃ o, Rp K G H t v o := s.vw (t, v) (by simp)
  have r := r.unb
  cases hu : unb t with
  | dic kvs =>
    rw [hu] at h r
    cases h
    obtain ⟨a, xs, o', h1, h2, h3, h4⟩ := r
    exact ⟨a, xs, h1, .inl h2, h3.keys⟩
  | p d =>
    rw [hu] at h r
    cases d with
    | dic kvs =>
      cases h
      obtain ⟨⟨a, xs, h1, h2, h3⟩, _⟩ := r
      exact ⟨a, xs, h1, Same.rd s.gh h2, h3.keys⟩
    | _ => cases h
  | _ => rw [hu] at h; cases h
/-- pure things given as new ones -/
theorem OkS.viewDs {ds : List D} {xs : List V} (S : OkS K G0 H0 W H ts vs env σ) (h : ∀ G ot oe, St0 K G0 H0 W G H ts vs env σ ot oe → RpDs K G ds xs) : OkS K G0 H0 W H (ds.map T.p ++ ts) (xs ++ vs) env σ := by
  obtain ⟨G, ot, oe, s⟩ := S
  exact OkS.pushD s (h G ot oe s)
end
section
variable {X : Cx} {e : Expr} {te : TE} {f : EF} {p pos apos cpos : Pos}
/-- list(d) -/
def eKeysL (f : EF) : EF := fun env => (f env).bind fun r => (keysT (unb r.1)).map fun ks => (.lst ((ks.map kD).map T.p), r.2)
theorem dt_listD (hc : X.calm = true) (hg : Gl X "list") (hm : X.mg "list" = none) (h : DV X e te f) (hv : bootBuiltins "list" = some (.type "list") := by decide +kernel) (hs : starEach [e] X.env = (false, eval e X.env) :: starEach [] X.env := by rfl) :
    DT X (.Call (.Name "list" p) [e] [] pos) (tCB (fun xs H Q => ∃ (a : Addr) (kvs : List (Key × V)), xs = [.ref a] ∧ Rd H a (.dK kvs) ∧ ∀ p, H p = none → Q (.ref p) (upd H p (.lst (kvs.map fun kv => L2.kV kv.1)))) (tCons te tNil)) (eKeysL f) := by
  refine ⟨pe_callTy (DB.call_listD hc) hg hm hv (pa_cons h.pe pa_nil hs) (by decide) (by decide) hs, ?_⟩
  intro G0 H0 W H ts vs env σ t env' S e Q q
  obtain ⟨⟨u, e1⟩, h1, h2⟩ := obind e
  obtain ⟨ks, h3, h4⟩ := omap h2
  cases h4
  refine h.ok _ _ _ _ _ _ _ _ _ _ S h1 _ fun v H1 s1 S1 => ?_
  obtain ⟨a, xs, k1, k2, k3⟩ := S1.keys h3
  refine ⟨a, xs, by rw [k1], k2, fun l hl => ?_⟩
  have hx : (xs.map fun kv => L2.kV kv.1) = ks.map L2.kV := by rw [← k3, List.map_map]; rfl
  rw [hx]
  have S2 := S1.unview.viewDs (ds := ks.map kD) (xs := ks.map L2.kV) fun G ot oe s => kD_rps ks
  exact q _ _ (s1.trans (same_upd hl)) (S2.newL (by simp) hl)
/-- list(d.values()) -/
def eValsL (f : EF) : EF := fun env => (f env).bind fun r => (dicT (unb r.1)).map fun kvs => (.lst ((kvs.map (·.2)).map T.p), r.2)
theorem St0.dicU {K : PySem.W.Frag} {G0 H0 G H : Hp} {W : List (T × V)} {ts : List T} {vs : List V} {env : Env} {σ : St} {ot oe : List Addr} {t : T} {v : V} {ds : List (Key × D)} (s : St0 K G0 H0 W G H ts vs env σ ot oe) (hq : (t, v) ∈ W) (h : dicT (unb t) = some ds) : ∃ a xs, v = .ref a ∧ Rd H a (.dK xs) ∧ RpKs K G ds xs := by
  cases t with
  | box a t =>
    obtain ⟨o, r⟩ := s.vw _ hq
    have s' : St0 K G0 H0 ((t, v) :: W) G H ts vs env σ ot oe := ⟨s.tmp, s.env, s.nd, s.fr, s.g0, s.gh, s.h0, s.nw, fun q hq => by
      rcases List.mem_cons.mp hq with e | hq
      · subst e; exact ⟨o, r.2⟩
      · exact s.vw q hq⟩
    exact s'.dic (t := t) (v := v) (by simp) h
  | _ => exact s.dic hq h
theorem dt_listVals (hc : X.calm = true) (hg : Gl X "list") (hm : X.mg "list" = none) (h : DV X e te f) (hv : bootBuiltins "list" = some (.type "list") := by decide +kernel) (hbase : attributeBase e "values" X.env (eval e X.env) = eval e X.env := by rfl) (hline : (apos.endLine == cpos.line) = true := by rfl)
    (hs : starEach [.Call (.Attribute e "values" apos) [] [] cpos] X.env = (false, eval (.Call (.Attribute e "values" apos) [] [] cpos) X.env) :: starEach [] X.env := by rfl) : DT X (.Call (.Name "list" p) [.Call (.Attribute e "values" apos) [] [] cpos] [] pos) (DB.tListVals te) (eValsL f) := by
  refine ⟨DB.pe_listVals hc h.pe hg hm hv hbase hline hs, ?_⟩
  intro G0 H0 W H ts vs env σ t env' S e Q q
  obtain ⟨⟨u, e1⟩, h1, h2⟩ := obind e
  obtain ⟨kvs, h3, h4⟩ := omap h2
  cases h4
  refine h.ok _ _ _ _ _ _ _ _ _ _ S h1 _ fun v H1 s1 S1 => ?_
  obtain ⟨G, ot, oe, s⟩ := S1
  obtain ⟨a, xs, k1, k2, k3⟩ := s.dicU (t := u) (v := v) (by simp) h3
  refine ⟨a, xs, k1, k2, fun l hl => ?_⟩
  have s' : St0 X.K G0 H0 W G H1 ts vs _ σ ot oe := ⟨s.tmp, s.env, s.nd, s.fr, s.g0, s.gh, s.h0, s.nw, fun q hq => s.vw q (List.mem_cons_of_mem _ hq)⟩
  have S2 := OkS.pushD s' k3.vals
  exact q _ _ (s1.trans (same_upd hl)) (S2.newL (by simp [k3.length]) hl)
/-- dict(d), the values frozen -/
def eDictC (f : EF) : EF := fun env => (f env).bind fun r => (dicT (unb r.1)).map fun kvs => (.dic (pairsT kvs), r.2)
theorem OkS.newDicK {K : PySem.W.Frag} {G0 H0 G H : Hp} {W : List (T × V)} {ts : List T} {vs : List V} {env : Env} {σ : St} {ot oe : List Addr} {kvs : List (Key × D)} {xs : List (Key × V)} {p : Addr} (s : St0 K G0 H0 W G H ts vs env σ ot oe) (hr : RpKs K G kvs xs) (hp : H p = none) : OkS K G0 H0 W (upd H p (.dK xs)) (.dic (pairsT kvs) :: ts) (.ref p :: vs) env σ := by
  have gp : G p = none := Same.none s.gh hp
  have ne : ∀ a u, H a = some u → a ≠ p := fun a u e z => by rw [z, hp] at e; cases e
  have all : ∀ a ∈ ot ++ oe, ∃ u, H a = some u := fun a ha => by
    rcases List.mem_append.mp ha with ha | ha
    · obtain ⟨u, e, _⟩ := s.tmp.there _ a ha; exact ⟨u, e⟩
    · obtain ⟨u, e, _⟩ := s.env.there _ a ha; exact ⟨u, e⟩
  have kp : ∀ a ∈ ot ++ oe, upd H p (.dK xs) a = H a := fun a ha => by
    obtain ⟨u, e⟩ := all a ha
    exact upd_ne (ne a u e)
  refine ⟨G, p :: ot, oe, ⟨.ref p, vs, [p], ot, rfl, ⟨p, xs, [], rfl, upd_same, rpTk_mk hr, rfl⟩, s.tmp.mono (Same.refl _) _ (fun a ha => kp a (List.mem_append_left _ ha)), rfl⟩, s.env.mono (Same.refl _) _ (fun a ha => kp a (List.mem_append_right _ ha)), ?_, fun a ha => ?_, s.g0, fun b u e => ?_, fun b u e => ?_, s.nw, fun q hq => ?_⟩
  · rw [List.cons_append]
    refine List.nodup_cons.mpr ⟨fun z => ?_, s.nd⟩
    obtain ⟨u, e⟩ := all p z
    rw [hp] at e; cases e
  · rw [List.cons_append] at ha
    rcases List.mem_cons.mp ha with e | ha
    · subst e; exact ⟨gp, Same.none s.h0 hp⟩
    · exact s.fr a ha
  · rw [upd_ne (ne b u (s.gh b u e))]; exact s.gh b u e
  · rw [upd_ne (ne b u (s.h0 b u e))]; exact s.h0 b u e
  · obtain ⟨o, h⟩ := s.vw q hq
    refine ⟨o, h.mono (Same.refl _) _ fun a ha => ?_⟩
    obtain ⟨u, e, _⟩ := h.there _ a ha
    exact upd_ne (ne a u e)
theorem dt_dictC (hg : Gl X "dict") (hm : X.mg "dict" = none) (h : DV X e te f) (hv : bootBuiltins "dict" = some (.type "dict") := by decide +kernel) (hs : starEach [e] X.env = (false, eval e X.env) :: starEach [] X.env := by rfl) :
    DT X (.Call (.Name "dict" p) [e] [] pos) (tCB (fun xs H Q => ∃ (a : Addr) (kvs : List (Key × V)), xs = [.ref a] ∧ Rd H a (.dK kvs) ∧ ∀ p, H p = none → Q (.ref p) (upd H p (.dK kvs))) (tCons te tNil)) (eDictC f) := by
  refine ⟨pe_callTy call_dictD hg hm hv (pa_cons h.pe pa_nil hs) (by decide) (by decide) hs, ?_⟩
  intro G0 H0 W H ts vs env σ t env' S e Q q
  obtain ⟨⟨u, e1⟩, h1, h2⟩ := obind e
  obtain ⟨kvs, h3, h4⟩ := omap h2
  cases h4
  refine h.ok _ _ _ _ _ _ _ _ _ _ S h1 _ fun v H1 s1 S1 => ?_
  obtain ⟨G, ot, oe, s⟩ := S1
  obtain ⟨a, xs, k1, k2, k3⟩ := s.dicU (t := u) (v := v) (by simp) h3
  have s' : St0 X.K G0 H0 W G H1 ts vs _ σ ot oe := ⟨s.tmp, s.env, s.nd, s.fr, s.g0, s.gh, s.h0, s.nw, fun q hq => s.vw q (List.mem_cons_of_mem _ hq)⟩
  exact ⟨a, xs, by rw [k1], k2, fun l hl => q _ _ (s1.trans (same_upd hl)) (OkS.newDicK s' k3 hl)⟩
/-- dict(pairs) -/
def pairsD : List D → Option (List (Key × D))
  | [] => some []
  | .tup [k, d] :: r => (keyD k).bind fun kk => (pairsD r).map ((kk, d) :: ·)
  | _ => none
def mergeD (kvs : List (Key × D)) (more : List (Key × D)) : List (Key × D) := more.foldl (fun acc kv => putD acc kv.1 kv.2) kvs
theorem pairsD_rp {K : PySem.W.Frag} {G : Hp} : ∀ {ds : List D} {kvs : List (Key × D)} {xs : List V}, pairsD ds = some kvs → RpDs K G ds xs → ∃ (ps : List Addr) (ws : List (Key × V)), xs = ps.map V.ref ∧ Paired (fun p (kv : Key × V) => SqT K G p [L2.kV kv.1, kv.2]) ps ws ∧ RpKs K G kvs ws
  | [], kvs, xs, h, r => by cases h; exact ⟨[], [], r, .nil, rfl⟩
  | d :: ds, kvs, xs, h, ⟨v, r, h1, h2, h3⟩ => by
    subst h1
    unfold pairsD at h
    split at h
    · cases ‹_ = []›
    · rename_i k d' r' e
      cases e
      obtain ⟨kk, g1, g2⟩ := obind h
      obtain ⟨ks, g3, g4⟩ := omap g2
      subst g4
      obtain ⟨ps, ws, q1, q2, q3⟩ := pairsD_rp g3 h3
      subst q1
      obtain ⟨a, zs, z1, z2, z3⟩ := h2
      obtain ⟨kv, zr, y1, y2, w, zr2, y3, y4, y5⟩ := z3
      have y5 : zr2 = [] := y5
      subst y5 y3 y1
      have ek : kv = L2.kV kk := keyD_rp g1 y2
      subst ek
      exact ⟨a :: ps, (kk, w) :: ws, by rw [z1]; rfl, .cons (tup_sq z2) q2, ⟨w, ws, rfl, y4, q3⟩⟩
    · cases h
theorem paired_imp {α β : Type} {F F' : α → β → Prop} (h : ∀ a b, F a b → F' a b) : ∀ {xs : List α} {ys : List β}, Paired F xs ys → Paired F' xs ys
  | _, _, .nil => .nil
  | _, _, .cons r t => .cons (h _ _ r) (paired_imp h t)
theorem RpKs.merge {K : PySem.W.Frag} {G : Hp} : ∀ {more : List (Key × D)} {ys : List (Key × V)} {kvs : List (Key × D)} {xs : List (Key × V)}, RpKs K G kvs xs → RpKs K G more ys → RpKs K G (mergeD kvs more) (mergeK xs ys)
  | [], _, _, _, h, h' => by rw [show _ = _ from h']; exact h
  | (k, d) :: more, _, _, _, h, ⟨v, r, h1, h2, h3⟩ => by
    subst h1
    have := RpKs.merge (h.put (k := k) h2) h3
    exact this
def eDictP (f : EF) : EF := fun env => (f env).bind fun r => (itemsT r.1).bind fun ds => if isLT r.1 = true then (pairsD ds).map fun kvs => (.dic (pairsT (mergeD [] kvs)), r.2) else none
theorem dt_dictP (hc : X.calm = true) (hg : Gl X "dict") (hm : X.mg "dict" = none) (h : DV X e te f) (hv : bootBuiltins "dict" = some (.type "dict") := by decide +kernel) (hs : starEach [e] X.env = (false, eval e X.env) :: starEach [] X.env := by rfl) :
    DT X (.Call (.Name "dict" p) [e] [] pos) (tCB (fun xs H Q => ∃ (a : Addr) (ps : List Addr) (kvs : List (Key × V)), xs = [.ref a] ∧ SqL X.K H a (ps.map V.ref) ∧ Paired (fun p (kv : Key × V) => SqT X.K H p [L2.kV kv.1, kv.2]) ps kvs ∧ ∀ p, H p = none → Q (.ref p) (upd H p (.dK (mergeK [] kvs)))) (tCons te tNil)) (eDictP f) := by
  refine ⟨pe_callTy (call_dictP hc) hg hm hv (pa_cons h.pe pa_nil hs) (by decide) (by decide) hs, ?_⟩
  intro G0 H0 W H ts vs env σ t env' S e Q q
  obtain ⟨⟨u, e1⟩, h1, h2⟩ := obind e
  obtain ⟨ds, h3, h4⟩ := obind h2
  by_cases hl : isLT u = true
  · rw [if_pos (show isLT (u, e1).1 = true from hl)] at h4
    obtain ⟨kvs, h5, h6⟩ := omap h4
    cases h6
    refine h.ok _ _ _ _ _ _ _ _ _ _ S h1 _ fun v H1 s1 S1 => ?_
    obtain ⟨a, xs, rfl, k1, k2, k3, S2⟩ := S1.items h3
    obtain ⟨G, ot, oe, s⟩ := S2
    obtain ⟨o1, o2, d1, d2, d3⟩ := s.tmp.split (us := ds.map T.p) (by rw [List.length_map]; exact k3)
    obtain ⟨dd, de⟩ := rpDs_of d1
    subst de
    have d3 : ot = o2 := d3
    subst d3
    obtain ⟨ps, ws, q1, q2, q3⟩ := pairsD_rp h5 dd
    subst q1
    have s' : St0 X.K G0 H0 W G H1 ts vs _ σ ot oe := ⟨d2, s.env, s.nd, s.fr, s.g0, s.gh, s.h0, s.nw, s.vw⟩
    have q2' : Paired (fun p (kv : Key × V) => SqT X.K H1 p [L2.kV kv.1, kv.2]) ps ws := paired_imp (fun _ _ h => Same.sqT s.gh h) q2
    exact ⟨a, ps, ws, rfl, k1 hl, q2', fun l hl => q _ _ (s1.trans (same_upd hl)) (OkS.newDicK s' (RpKs.merge (show RpKs X.K G [] [] from rfl) q3) hl)⟩
  · rw [if_neg (show ¬ isLT (u, e1).1 = true from hl)] at h4; cases h4
end
end DL

set_option Elab.async false
set_option linter.all false
set_option maxRecDepth 100000
set_option maxHeartbeats 1000000
/-! Walks over a dict of a name: it is locked while they last. -/
namespace DL
open PySem PySem.Spec PyProof.Rows L2
def Plain (u : HO) : Prop := ∀ o x, u ≠ .frz o x
/-- what stands as pure stands after a lock is laid or lifted -/
structure SwR (G G' : Hp) : Prop where
  rd : ∀ a u, Plain u → Rd G a u → Rd G' a u
  ins : ∀ a C dx fs, G a = some (.ins C dx fs) → G' a = some (.ins C dx fs)
  tup : ∀ a xs, G a = some (.tup xs) → G' a = some (.tup xs)
section
variable {K : PySem.W.Frag} {G G' H H' : Hp}
mutual
theorem RpD.sw (e : SwR G G') : ∀ (d : D) {v : V}, RpD K G d v → RpD K G' d v
  | .non, _, h => h
  | .bl _, _, h => h
  | .int _, _, h => h
  | .str _, _, h => h
  | .lst ds, _, ⟨a, vs, h1, h2, h3⟩ => ⟨a, vs, h1, e.rd a _ (fun _ _ z => by cases z) h2, RpDs.sw e ds h3⟩
  | .tup ds, _, ⟨a, vs, h1, h2, h3⟩ => ⟨a, vs, h1, e.tup _ _ h2, RpDs.sw e ds h3⟩
  | .dic kvs, _, ⟨a, ws, h1, h2, h3⟩ => ⟨a, ws, h1, e.rd a _ (fun _ _ z => by cases z) h2, RpKs.sw e kvs h3⟩
  | .dit kvs, _, ⟨a, ws, h1, h2, h3⟩ => ⟨a, ws, h1, e.rd a _ (fun _ _ z => by cases z) h2, RpKt.sw e kvs h3⟩
  | .obj n fs, _, ⟨a, C, dx, ws, h1, h2, h3, h4⟩ => ⟨a, C, dx, ws, h1, h2, e.ins _ _ _ _ h3, RpKf.sw e fs h4⟩
  | .al _, _, h => h
theorem RpDs.sw (e : SwR G G') : ∀ (ds : List D) {vs : List V}, RpDs K G ds vs → RpDs K G' ds vs
  | [], _, h => h
  | d :: ds, _, ⟨v, r, h1, h2, h3⟩ => ⟨v, r, h1, RpD.sw e d h2, RpDs.sw e ds h3⟩
theorem RpKs.sw (e : SwR G G') : ∀ (ds : List (Key × D)) {vs : List (Key × V)}, RpKs K G ds vs → RpKs K G' ds vs
  | [], _, h => h
  | (k, d) :: ds, _, ⟨v, r, h1, h2, h3⟩ => ⟨v, r, h1, RpD.sw e d h2, RpKs.sw e ds h3⟩
theorem RpKt.sw (e : SwR G G') : ∀ (ds : List (List Key × D)) {vs : List (List Key × V)}, RpKt K G ds vs → RpKt K G' ds vs
  | [], _, h => h
  | (k, d) :: ds, _, ⟨v, r, h1, h2, h3⟩ => ⟨v, r, h1, RpD.sw e d h2, RpKt.sw e ds h3⟩
theorem RpKf.sw (e : SwR G G') : ∀ (ds : List (Str × D)) {vs : List (Str × V)}, RpKf K G ds vs → RpKf K G' ds vs
  | [], _, h => h
  | (k, d) :: ds, _, ⟨v, r, h1, h2, h3⟩ => ⟨v, r, h1, RpD.sw e d h2, RpKf.sw e ds h3⟩
end
mutual
theorem Rp.sw (e : SwR G G') : ∀ (t : T) {v : V} {o : List Addr}, (∀ a ∈ o, H' a = H a) → Rp K G H t v o → Rp K G' H' t v o
  | .p d, _, _, _, ⟨h1, h2⟩ => ⟨RpD.sw e d h1, h2⟩
  | .lst ts, _, _, k, ⟨a, vs, o', h1, h2, h3, h4⟩ => ⟨a, vs, o', h1, by rw [k a (by rw [h4]; simp)]; exact h2, RpTs.sw e ts (fun b hb => k b (by rw [h4]; simp [hb])) h3, h4⟩
  | .tup ts, _, _, k, ⟨a, vs, h1, h2, h3⟩ => ⟨a, vs, h1, e.tup _ _ h2, RpTs.sw e ts k h3⟩
  | .dic kvs, _, _, k, ⟨a, ws, o', h1, h2, h3, h4⟩ => ⟨a, ws, o', h1, by rw [k a (by rw [h4]; simp)]; exact h2, RpTk.sw e kvs (fun b hb => k b (by rw [h4]; simp [hb])) h3, h4⟩
  | .dit kvs, _, _, k, ⟨a, ws, o', h1, h2, h3, h4⟩ => ⟨a, ws, o', h1, by rw [k a (by rw [h4]; simp)]; exact h2, RpTt.sw e kvs (fun b hb => k b (by rw [h4]; simp [hb])) h3, h4⟩
  | .obj n fs, _, _, k, ⟨a, C, dx, ws, o', h1, h0, h2, h3, h4⟩ => ⟨a, C, dx, ws, o', h1, h0, by rw [k a (by rw [h4]; simp)]; exact h2, RpTf.sw e fs (fun b hb => k b (by rw [h4]; simp [hb])) h3, h4⟩
  | .box a t, _, _, k, ⟨h1, h2⟩ => ⟨h1, Rp.sw e t k h2⟩
  | .al a, _, _, _, h => h
theorem RpTs.sw (e : SwR G G') : ∀ (ts : List T) {vs : List V} {o : List Addr}, (∀ a ∈ o, H' a = H a) → RpTs K G H ts vs o → RpTs K G' H' ts vs o
  | [], _, _, _, h => h
  | t :: ts, _, _, k, ⟨v, r, o1, o2, h1, h2, h3, h4⟩ => ⟨v, r, o1, o2, h1, Rp.sw e t (fun b hb => k b (by rw [h4]; simp [hb])) h2, RpTs.sw e ts (fun b hb => k b (by rw [h4]; simp [hb])) h3, h4⟩
theorem RpTk.sw (e : SwR G G') : ∀ (ts : List (Key × T)) {vs : List (Key × V)} {o : List Addr}, (∀ a ∈ o, H' a = H a) → RpTk K G H ts vs o → RpTk K G' H' ts vs o
  | [], _, _, _, h => h
  | (_, t) :: ts, _, _, k, ⟨v, r, o1, o2, h1, h2, h3, h4⟩ => ⟨v, r, o1, o2, h1, Rp.sw e t (fun b hb => k b (by rw [h4]; simp [hb])) h2, RpTk.sw e ts (fun b hb => k b (by rw [h4]; simp [hb])) h3, h4⟩
theorem RpTt.sw (e : SwR G G') : ∀ (ts : List (List Key × T)) {vs : List (List Key × V)} {o : List Addr}, (∀ a ∈ o, H' a = H a) → RpTt K G H ts vs o → RpTt K G' H' ts vs o
  | [], _, _, _, h => h
  | (_, t) :: ts, _, _, k, ⟨v, r, o1, o2, h1, h2, h3, h4⟩ => ⟨v, r, o1, o2, h1, Rp.sw e t (fun b hb => k b (by rw [h4]; simp [hb])) h2, RpTt.sw e ts (fun b hb => k b (by rw [h4]; simp [hb])) h3, h4⟩
theorem RpTf.sw (e : SwR G G') : ∀ (ts : List (Str × T)) {vs : List (Str × V)} {o : List Addr}, (∀ a ∈ o, H' a = H a) → RpTf K G H ts vs o → RpTf K G' H' ts vs o
  | [], _, _, _, h => h
  | (_, t) :: ts, _, _, k, ⟨v, r, o1, o2, h1, h2, h3, h4⟩ => ⟨v, r, o1, o2, h1, Rp.sw e t (fun b hb => k b (by rw [h4]; simp [hb])) h2, RpTf.sw e ts (fun b hb => k b (by rw [h4]; simp [hb])) h3, h4⟩
end
theorem RpE.sw (e : SwR G G') : ∀ (es : Env) {σ : St} {o : List Addr}, (∀ a ∈ o, H' a = H a) → RpE K G H es σ o → RpE K G' H' es σ o
  | [], _, _, _, h => h
  | none :: es, _, _, k, ⟨x, r, h1, h2⟩ => ⟨x, r, h1, RpE.sw e es k h2⟩
  | some t :: es, _, _, k, ⟨v, r, o1, o2, h1, h2, h3, h4⟩ => ⟨v, r, o1, o2, h1, Rp.sw e t (fun b hb => k b (by rw [h4]; simp [hb])) h2, RpE.sw e es (fun b hb => k b (by rw [h4]; simp [hb])) h3, h4⟩
end
/-- where it stands: u in the place of what is at d -/
def lk (G : Hp) (d : Addr) (u : HO) : Hp := fun a => if a = d then (match G d with | some _ => some u | none => none) else G a
theorem lk_ne {G : Hp} {d a : Addr} {u : HO} (h : a ≠ d) : lk G d u a = G a := if_neg h
theorem lk_at {G : Hp} {d : Addr} {u x : HO} (h : G d = some x) : lk G d u d = some u := by unfold lk; rw [if_pos rfl, h]
theorem lk_no {G : Hp} {d : Addr} {u : HO} (h : G d = none) : lk G d u d = none := by unfold lk; rw [if_pos rfl, h]
theorem lk_same {G H : Hp} {d : Addr} {u x : HO} (e : Same G H) (hd : H d = some x) : Same (lk G d u) (lk H d u) := fun a y h => by
  by_cases c : a = d
  · subst c
    cases g : G a with
    | none => rw [lk_no g] at h; cases h
    | some z => rw [lk_at g] at h; rw [lk_at hd]; exact h
  · rw [lk_ne c] at h ⊢; exact e a y h
theorem lk_upd {H : Hp} {d : Addr} {u x : HO} (hd : H d = some x) : lk H d u = upd H d u := by
  funext a
  by_cases c : a = d
  · subst c; rw [lk_at hd, upd_same]
  · rw [lk_ne c, upd_ne c]
theorem lk_none {G : Hp} {d a : Addr} {u : HO} (h : G a = none) : lk G d u a = none := by
  by_cases c : a = d
  · subst c; exact lk_no h
  · rw [lk_ne c]; exact h
theorem SwR.lk {G : Hp} {d : Addr} {x u : HO} (gd : G d = some x) (hxu : ∀ y, Plain y → (x = y ∨ ∃ o, x = .frz o y) → (u = y ∨ ∃ o, u = .frz o y)) (hi : ∀ C dx fs, x ≠ .ins C dx fs) (hxt : ∀ xs, x ≠ .tup xs) : SwR G (lk G d u) := ⟨fun a y hp h => by
    by_cases c : a = d
    · subst c
      have : x = y ∨ ∃ o, x = .frz o y := by
        rcases h with h | ⟨o, h⟩
        · rw [gd] at h; exact .inl (Option.some.inj h)
        · rw [gd] at h; exact .inr ⟨o, Option.some.inj h⟩
      rcases hxu y hp this with q | ⟨o, q⟩
      · exact .inl (by rw [lk_at gd, q])
      · exact .inr ⟨o, by rw [lk_at gd, q]⟩
    · rcases h with h | ⟨o, h⟩
      · exact .inl (by rw [lk_ne c]; exact h)
      · exact .inr ⟨o, by rw [lk_ne c]; exact h⟩, fun a C dx fs h => by
    have : a ≠ d := fun z => by subst z; rw [gd] at h; exact hi _ _ _ (Option.some.inj h)
    rw [lk_ne this]; exact h, fun a xs h => by
    have : a ≠ d := fun z => by subst z; rw [gd] at h; exact hxt _ (Option.some.inj h)
    rw [lk_ne this]; exact h⟩
/-- a lock laid, or lifted -/
theorem OkS.swap {K : PySem.W.Frag} {G0 H0 H : Hp} {ts : List T} {vs : List V} {env : Env} {σ : St} {d : Addr} {x u : HO} (S : OkS K G0 H0 [] H ts vs env σ) (hx : ∀ G, Same G0 G → Same G H → G d = some x) (hd : H d = some x)
    (hxu : ∀ y, Plain y → (x = y ∨ ∃ o, x = .frz o y) → (u = y ∨ ∃ o, u = .frz o y)) (hi : ∀ C dx fs, x ≠ .ins C dx fs) (hxt : ∀ xs, x ≠ .tup xs) : OkS K (lk G0 d u) (lk H0 d u) [] (upd H d u) ts vs env σ := by
  obtain ⟨G, ot, oe, s⟩ := S
  have gd : G d = some x := hx G s.g0 s.gh
  have sw : SwR G (lk G d u) := SwR.lk gd hxu hi hxt
  have ne : ∀ a ∈ ot ++ oe, a ≠ d := fun a ha z => by
    have := (s.fr a ha).1
    rw [z, gd] at this; cases this
  have kp : ∀ a ∈ ot ++ oe, upd H d u a = H a := fun a ha => upd_ne (ne a ha)
  refine ⟨lk G d u, ot, oe, s.tmp.sw sw _ (fun a ha => kp a (List.mem_append_left _ ha)), s.env.sw sw _ (fun a ha => kp a (List.mem_append_right _ ha)), s.nd, fun a ha => ⟨by rw [lk_ne (ne a ha)]; exact (s.fr a ha).1, by rw [lk_ne (ne a ha)]; exact (s.fr a ha).2⟩, lk_same s.g0 gd, ?_, ?_, fun a o e => ?_, fun q hq => ?_⟩
  · rw [← lk_upd hd]; exact lk_same s.gh hd
  · rw [← lk_upd hd]; exact lk_same s.h0 hd
  · by_cases c : a = d
    · subst c
      rcases s.nw a x gd with z | z | ⟨xs, z⟩
      · cases g : G0 a with
        | none => exact absurd g z
        | some y => exact .inl (by rw [lk_at g]; simp)
      · exact .inr (.inl (lk_none z))
      · exact absurd z (hxt xs)
    · rw [lk_ne c] at e ⊢
      rw [lk_ne c]
      exact s.nw a o e
  · cases hq
theorem lk_lk {G : Hp} {d : Addr} {u x : HO} (h : G d = some x) : lk (lk G d u) d x = G := by
  funext a
  by_cases c : a = d
  · subst c; rw [lk_at (lk_at h), h]
  · rw [lk_ne c, lk_ne c]
theorem lk_lk0 {G : Hp} {d : Addr} {u x : HO} (h : ∀ y, G d = some y → y = x) : lk (lk G d u) d x = G := by
  cases g : G d with
  | some y => have := h y g; subst this; exact lk_lk g
  | none =>
    funext a
    by_cases c : a = d
    · subst c; rw [lk_no (lk_no g), g]
    · rw [lk_ne c, lk_ne c]
/-- what a walk asks of its body, for an iterator at hand -/
def forR (J : It) (g : TG) (tb : TS) (D : Ends) (σ : St) (H1 : Hp) : Prop := ∃ W : Nat → Nat → St → Hp → Prop, (∃ m, W 0 m σ H1) ∧ ∀ i m σ H, W i m σ H →
  (J.stop i H ∧ D.nx σ H) ∨ (J.go i H ∧ ∃ N : St → Hp → Prop, (∀ σ' H', N σ' H' → ∃ m', m' < m ∧ W (i + 1) m' σ' H') ∧ ∀ x H', J.yld i H x H' → g x σ H' fun σ2 H2 => tb { D with nx := N, ct := N, bk := D.nx } σ2 H2)
section
variable {K : PySem.W.Frag} {G0 H0 G1 H H1 : Hp} {ts : List T} {vs : List V} {σ : St}
theorem for_run {g : TG} {G : GF} {tb : TS} {F : SF} {sl sl2 : List Nat} {J : It} {ds : List D} {e1 env' : Env} {fl : Fl} (hg : EvG K g G sl) (hb : EvS K tb F sl2) (I : ItOk K G1 J ds) (S1 : OkS K G1 H0 [] H1 ts vs e1 σ) (g2 : loopD G F ds e1 = some (fl, env')) {D : Ends} (q : Post K G1 H0 ts vs D fl env' (sl ++ sl2) σ) : forR J g tb D σ H1 := by
  refine ⟨fun i m σ2 H => m = ds.length - i ∧ i ≤ ds.length ∧ Dif (sl ++ sl2) σ σ2 ∧ ∃ env, OkS K G1 H0 [] H ts vs env σ2 ∧ loopD G F (ds.drop i) env = some (fl, env'), ⟨ds.length, by simp, Nat.zero_le _, .rfl', e1, S1, by simpa using g2⟩, ?_⟩
  rintro i m σ2 H2 ⟨rfl, hle, df, env2, S2, hl⟩
  by_cases hlt : i < ds.length
  · refine .inr ⟨I.go i H2 S2.same hlt, fun σ' H' => i + 1 ≤ ds.length ∧ Dif (sl ++ sl2) σ σ' ∧ ∃ env, OkS K G1 H0 [] H' ts vs env σ' ∧ loopD G F (ds.drop (i + 1)) env = some (fl, env'), fun σ' H' ⟨h1, h2⟩ => ⟨ds.length - (i + 1), by omega, rfl, h1, h2⟩, fun x H3 y => ?_⟩
    obtain ⟨s3, S3⟩ := I.item S2 (List.getElem?_eq_getElem hlt) y
    rw [List.drop_eq_getElem_cons hlt] at hl
    obtain ⟨e2, l1, l2⟩ := obind hl
    obtain ⟨⟨fl2, e3⟩, l3, l4⟩ := obind l2
    refine hg _ _ _ _ _ _ _ _ _ _ _ S3 l1 _ fun σ' S' f1 => ?_
    refine hb _ _ _ _ _ _ _ _ _ S' l3 _ ?_
    cases fl2 with
    | nx => exact fun H' σ4 S4 f2 => ⟨hlt, df.two (f1.tr f2), e3, S4, l4⟩
    | ct => exact fun H' σ4 S4 f2 => ⟨hlt, df.two (f1.tr f2), e3, S4, l4⟩
    | bk => cases l4; exact fun H' σ4 S4 f2 => q H' σ4 S4 (df.two (f1.tr f2))
    | rt t => cases l4; exact fun v H' σ' S4 f2 => q v H' σ' S4 (df.two (f1.tr f2))
  · have hi' : i = ds.length := by omega
    subst hi'
    rw [List.drop_length] at hl
    cases hl
    exact .inl ⟨I.stop H2 S2.same, q H2 σ2 S2 df⟩
end
/-- an iterator over a locked dict -/
structure ItD (K : PySem.W.Frag) (it : Addr → Obj → List (Key × V) → It) (mk : Key × D → D) : Prop where
  ok : ∀ {G : Hp} {a : Addr} {o : Obj} {kvs : List (Key × D)} {xs : List (Key × V)}, G a = some (.frz o (.dK xs)) → RpKs K G kvs xs → ItOk K G (it a o xs) (kvs.map mk)
theorem RpKs.get {K : PySem.W.Frag} {G : Hp} : ∀ {kvs : List (Key × D)} {xs : List (Key × V)}, RpKs K G kvs xs → ∀ (i : Nat) (k : Key) (d : D), kvs[i]? = some (k, d) → ∃ v, xs[i]? = some (k, v) ∧ RpD K G d v
  | [], _, _, i, _, _, e => by simp at e
  | (k, d) :: kvs, _, ⟨v, r, h1, h2, h3⟩, 0, _, _, e => by
    simp at e; obtain ⟨rfl, rfl⟩ := e; subst h1; exact ⟨v, rfl, h2⟩
  | (k, d) :: kvs, _, ⟨v, r, h1, h2, h3⟩, i + 1, k', d', e => by
    subst h1
    obtain ⟨v', f1, f2⟩ := RpKs.get h3 i k' d' (by simpa using e)
    exact ⟨v', by simpa using f1, f2⟩
theorem RpKs.len {K : PySem.W.Frag} {G : Hp} {kvs : List (Key × D)} {xs : List (Key × V)} (h : RpKs K G kvs xs) : xs.length = kvs.length := by
  have := congrArg List.length h.keys
  simpa using this
theorem itD_keys {K : PySem.W.Frag} : ItD K Itk (fun kv => kD kv.1) where
  ok := fun {G a o kvs xs} h r => {
    go := fun i H s hi => ⟨s _ _ h, by rw [r.len]; simpa using hi⟩
    stop := fun H s => ⟨s _ _ h, by rw [r.len, List.length_map]; exact Nat.le_refl _⟩
    yld := fun i H x H' d s hd y => by
      obtain ⟨e, k, v, h1, h2⟩ := y
      rw [List.getElem?_map] at hd
      cases hk : kvs[i]? with
      | none => rw [hk] at hd; cases hd
      | some kd =>
        rw [hk] at hd
        cases hd
        obtain ⟨v', f1, f2⟩ := r.get i kd.1 kd.2 hk
        rw [h1] at f1; cases f1
        exact .inl ⟨e, by rw [h2]; exact kD_rp _⟩ }
theorem itD_items {K : PySem.W.Frag} : ItD K Iti (fun kv => .tup [kD kv.1, kv.2]) where
  ok := fun {G a o kvs xs} h r => {
    go := fun i H s hi => ⟨s _ _ h, by rw [r.len]; simpa using hi⟩
    stop := fun H s => ⟨s _ _ h, by rw [r.len, List.length_map]; exact Nat.le_refl _⟩
    yld := fun i H x H' d s hd y => by
      obtain ⟨p, k, v, h1, h2, h3, h4⟩ := y
      rw [List.getElem?_map] at hd
      cases hk : kvs[i]? with
      | none => rw [hk] at hd; cases hd
      | some kd =>
        rw [hk] at hd
        cases hd
        obtain ⟨v', f1, f2⟩ := r.get i kd.1 kd.2 hk
        rw [h1] at f1; cases f1
        exact .inr ⟨p, _, _, h3, h4, h2, rfl, L2.kV kd.1, [v], rfl, kD_rp _, v, [], rfl, f2, rfl⟩ }
theorem itD_vals {K : PySem.W.Frag} : ItD K Itd (fun kv => kv.2) where
  ok := fun {G a o kvs xs} h r => {
    go := fun i H s hi => ⟨s _ _ h, by rw [r.len]; simpa using hi⟩
    stop := fun H s => ⟨s _ _ h, by rw [r.len, List.length_map]; exact Nat.le_refl _⟩
    yld := fun i H x H' d s hd y => by
      obtain ⟨e, k, h1⟩ := y
      rw [List.getElem?_map] at hd
      cases hk : kvs[i]? with
      | none => rw [hk] at hd; cases hd
      | some kd =>
        rw [hk] at hd
        cases hd
        obtain ⟨v', f1, f2⟩ := r.get i kd.1 kd.2 hk
        rw [h1] at f1; cases f1
        exact .inl ⟨e, f2⟩ }
def iDic (mk : Key × D → D) (f : EF) : IF := fun env => (f env).bind fun r => match r.1 with
  | .p (.dic kvs) => some (kvs.map mk, r.2)
  | _ => none
def tDic (wi : TI) (g : TG) (tb : TS) : TS := fun D σ H => tFor wi g tb D σ H ∨ tLock (tFor wi g tb) D σ H
theorem Post.imp {K : PySem.W.Frag} {G0 H0 G0' H0' : Hp} {ts : List T} {vs : List V} {D D' : Ends} {fl : Fl} {env' : Env} {sl : List Nat} {σ : St} (q : Post K G0 H0 ts vs D fl env' sl σ)
    (h : ∀ (ts' : List T) (vs' : List V) H' σ', OkS K G0' H0' [] H' ts' vs' env' σ' → ∃ H'', OkS K G0 H0 [] H'' ts' vs' env' σ' ∧ (D.nx σ' H'' → D'.nx σ' H') ∧ (D.bk σ' H'' → D'.bk σ' H') ∧ (D.ct σ' H'' → D'.ct σ' H') ∧ (∀ v, D.rt v H'' → D'.rt v H')) : Post K G0' H0' ts vs D' fl env' sl σ := by
  cases fl with
  | nx => intro H' σ' S f; obtain ⟨H'', S', a, b, c, d⟩ := h _ _ _ _ S; exact a (q H'' σ' S' f)
  | bk => intro H' σ' S f; obtain ⟨H'', S', a, b, c, d⟩ := h _ _ _ _ S; exact b (q H'' σ' S' f)
  | ct => intro H' σ' S f; obtain ⟨H'', S', a, b, c, d⟩ := h _ _ _ _ S; exact c (q H'' σ' S' f)
  | rt t => intro v H' σ' S f; obtain ⟨H'', S', a, b, c, d⟩ := h _ _ _ _ S; exact d v (q v H'' σ' S' f)
theorem ds_forD {X : Cx} {tg iter : Expr} {body : List Stmt} {wi : TI} {it : Addr → Obj → List (Key × V) → It} {mk : Key × D → D} {f : EF} {te : TE} {g : TG} {G : GF} {tb : TS} {F : SF} {pos : Pos} {sl sl2 : List Nat} (hp : PassesOwn (model X.prog X.w) X.A X.env X.xe) (hc : X.calm = true) (hi : PI X tg iter wi) (hI : ItD X.K it mk)
    (hw : ∀ (σ : St) (H : Hp) (R : It → Hp → Prop), te σ H (fun x H1 => ∃ d o kvs, x = .ref d ∧ H1 d = some (.frz o (.dK kvs)) ∧ R (it d o kvs) H1) → wi σ H R)
    (ht : ∀ (G0 H0 H : Hp) (ts : List T) (vs : List V) (env : Env) (σ : St) (t : T) (env' : Env), OkS X.K G0 H0 [] H ts vs env σ → f env = some (t, env') → ∃ v, OkS X.K G0 H0 [] H (t :: ts) (v :: vs) env' σ ∧ ∀ (H' : Hp) (Q : VK), Q v H' → te σ H' Q)
    (hg : DG X tg g G sl) (hb : DSs X body tb F sl2)
    (hs : ∀ x, foldedSetIterable iter X.env x = pure x := by intro _; rfl) : DS X (.For tg iter body [] pos) (tDic wi g tb) (sFor (iDic mk f) G F) (sl ++ sl2) := by
  have ps0 := ps_for (tb := tb) hp hc hi hg.pg hb.ps (pos := pos) hs
  refine ⟨⟨fun pins s σ H D I hh => ?_⟩, ?_⟩
  · rcases hh with hh | hh
    · exact ps0.run pins s σ H D I hh
    · exact (ps_lock ps0).run pins s σ H D I hh
  intro G0 H0 H ts vs env σ fl env' S e D q
  obtain ⟨⟨ds, e1⟩, g1, g2⟩ := obind e
  obtain ⟨⟨t, e2⟩, g3, g4⟩ := obind g1
  dsimp only at g4
  split at g4
  · rename_i kvs
    cases g4
    obtain ⟨v, S1, hq⟩ := ht _ _ _ _ _ _ _ _ _ S g3
    obtain ⟨G1, gst, sG, ⟨a, xs, ev, hrd, hks⟩, S2⟩ := S1.fixTop
    subst ev
    rcases hrd with hd | ⟨o, hd⟩
    · -- laid
      have hH : H a = some (.dK xs) := sG _ _ hd
      refine .inr ⟨a, .dK xs, hH, by simp [Mut], fun od => ?_⟩
      refine hw _ _ _ (hq _ _ ⟨a, od, xs, rfl, upd_same, ?_⟩)
      have hxu : ∀ y, Plain y → (HO.dK xs = y ∨ ∃ o, HO.dK xs = .frz o y) → (HO.frz od (.dK xs) = y ∨ ∃ o, HO.frz od (.dK xs) = .frz o y) := fun y hp h => by
        rcases h with h | ⟨o, h⟩
        · exact .inr ⟨od, by rw [h]⟩
        · cases h
      have h00 : ∀ y, H0 a = some y → y = .dK xs := fun y hy => by
        obtain ⟨G, ot, oe, s⟩ := S2
        have := s.h0 a y hy
        rw [hH] at this; cases this; rfl
      have S3 := S2.swap (d := a) (x := .dK xs) (u := .frz od (.dK xs)) (fun G h1 h2 => h1 _ _ hd) hH hxu (fun _ _ _ h => by cases h) (fun _ h => by cases h)
      have sw : SwR G1 (lk G1 a (.frz od (.dK xs))) := SwR.lk hd hxu (fun _ _ _ h => by cases h) (fun _ h => by cases h)
      refine for_run (G1 := lk G1 a (.frz od (.dK xs))) (H0 := lk H0 a (.frz od (.dK xs))) hg.ok hb.ok (hI.ok (lk_at hd) (RpKs.sw sw _ hks)) S3 g2 ?_
      refine q.imp fun ts' vs' H' σ' S4 => ?_
      have h4 : H' a = some (.frz od (.dK xs)) := S4.same _ _ (lk_at hd)
      have S5 := S4.swap (d := a) (x := .frz od (.dK xs)) (u := .dK xs) (fun G h1 h2 => h1 _ _ (lk_at hd)) h4 (fun y hp h => by
        rcases h with h | ⟨o, h⟩
        · exact absurd h.symm (hp _ _)
        · cases h; exact .inl rfl) (fun _ _ _ h => by cases h) (fun _ h => by cases h)
      rw [lk_lk hd, lk_lk0 h00] at S5
      exact ⟨upd H' a (.dK xs), S5.back gst, fun h => ⟨h4, h⟩, fun h => ⟨h4, h⟩, fun h => ⟨h4, h⟩, fun v h => ⟨h4, h⟩⟩
    · have hH : H a = some (.frz o (.dK xs)) := sG _ _ hd
      refine .inl (hw _ _ _ (hq _ _ ⟨a, o, xs, rfl, hH, ?_⟩))
      refine for_run hg.ok hb.ok (hI.ok hd hks) S2 g2 ?_
      exact q.imp fun ts' vs' H' σ' S4 => ⟨H', S4.back gst, id, id, id, fun _ => id⟩
  · cases g4

/-! ### d, d.items(), d.values() of a name -/
theorem ev_vt {X : Cx} {i : Nat} (G0 H0 H : Hp) (ts : List T) (vs : List V) (env : Env) (σ : St) (t : T) (env' : Env) (S : OkS X.K G0 H0 [] H ts vs env σ) (g : eV i env = some (t, env')) : ∃ v, OkS X.K G0 H0 [] H (t :: ts) (v :: vs) env' σ ∧ ∀ (H' : Hp) (Q : VK), Q v H' → tVar i σ H' Q := by
  obtain ⟨v, hv, S1⟩ := ev_v (K := X.K) (i := i) _ _ _ _ _ _ _ _ _ _ S g (fun v H' => OkS X.K G0 H0 [] H' (t :: ts) (v :: vs) env' σ) (fun v H' e S => S)
  exact ⟨v, S1, fun H' Q q => ⟨v, hv, q⟩⟩
def iKy (f : EF) : IF := iDic (fun kv => kD kv.1) f
def iIts (f : EF) : IF := iDic (fun kv => .tup [kD kv.1, kv.2]) f
def iVls (f : EF) : IF := iDic (fun kv => kv.2) f
section
variable {X : Cx} {tg : Expr} {body : List Stmt} {g : TG} {G : GF} {tb : TS} {F : SF} {pos npos apos cpos tpos : Pos} {sl sl2 : List Nat} {x : Str}
theorem ds_forKeys (i : Nat) (hp : PassesOwn (model X.prog X.w) X.A X.env X.xe) (hc : X.calm = true) (hg : DG X tg g G sl) (hb : DSs X body tb F sl2)
    (hN : X.N[i]? = some x := by rfl) (hv : Vis X.env.scope x := by first | exact Or.inl rfl | exact Or.inr (Or.inl rfl) | exact Or.inr (Or.inr rfl)) (hd : (x == ("__debug__" : Str)) = false := by decide) (hcd : (x == ("__classdict__" : Str)) = false := by decide)
    (hs : ∀ z, foldedSetIterable (.Name x npos) X.env z = pure z := by intro _; rfl) : DS X (.For tg (.Name x npos) body [] pos) (tDic (iKeys (tVar i)) g tb) (sFor (iKy (eV i)) G F) (sl ++ sl2) :=
  ds_forD hp hc (pi_keys (pe_var hN hv hd hcd)) itD_keys (te := tVar i) (fun σ H R ⟨v, hv, d, o, kvs, e, h, r⟩ => ⟨v, hv, d, o, e, .inl ⟨kvs, h, r⟩⟩) ev_vt hg hb hs
theorem ds_forItems {elts : List Expr} {kk : Nat} (i : Nat) (hp : PassesOwn (model X.prog X.w) X.A X.env X.xe) (hc : X.calm = true) (hg : DG X (.Tuple elts kk tpos) g G sl) (hb : DSs X body tb F sl2)
    (hN : X.N[i]? = some x := by rfl) (hv : Vis X.env.scope x := by first | exact Or.inl rfl | exact Or.inr (Or.inl rfl) | exact Or.inr (Or.inr rfl)) (hd : (x == ("__debug__" : Str)) = false := by decide) (hcd : (x == ("__classdict__" : Str)) = false := by decide)
    (hbase : attributeBase (.Name x npos) "items" X.env (eval (.Name x npos) X.env) = eval (.Name x npos) X.env := by rfl) (hline : (apos.endLine == cpos.line) = true := by rfl)
    (hs : ∀ z, foldedSetIterable (.Call (.Attribute (.Name x npos) "items" apos) [] [] cpos) X.env z = pure z := by intro _; rfl) : DS X (.For (.Tuple elts kk tpos) (.Call (.Attribute (.Name x npos) "items" apos) [] [] cpos) body [] pos) (tDic (iItems (tVar i)) g tb) (sFor (iIts (eV i)) G F) (sl ++ sl2) :=
  ds_forD hp hc (pi_items (pe_var hN hv hd hcd) hbase hline) itD_items (te := tVar i) (fun σ H R ⟨v, hv, d, o, kvs, e, h, r⟩ => ⟨v, hv, d, o, kvs, e, h, r⟩) ev_vt hg hb hs
theorem ds_forVals (i : Nat) (hp : PassesOwn (model X.prog X.w) X.A X.env X.xe) (hc : X.calm = true) (hg : DG X tg g G sl) (hb : DSs X body tb F sl2)
    (hN : X.N[i]? = some x := by rfl) (hv : Vis X.env.scope x := by first | exact Or.inl rfl | exact Or.inr (Or.inl rfl) | exact Or.inr (Or.inr rfl)) (hd : (x == ("__debug__" : Str)) = false := by decide) (hcd : (x == ("__classdict__" : Str)) = false := by decide)
    (hbase : attributeBase (.Name x npos) "values" X.env (eval (.Name x npos) X.env) = eval (.Name x npos) X.env := by rfl) (hline : (apos.endLine == cpos.line) = true := by rfl)
    (hs : ∀ z, foldedSetIterable (.Call (.Attribute (.Name x npos) "values" apos) [] [] cpos) X.env z = pure z := by intro _; rfl) : DS X (.For tg (.Call (.Attribute (.Name x npos) "values" apos) [] [] cpos) body [] pos) (tDic (iVals (tVar i)) g tb) (sFor (iVls (eV i)) G F) (sl ++ sl2) :=
  ds_forD hp hc (pi_values (pe_var hN hv hd hcd) hbase hline) itD_vals (te := tVar i) (fun σ H R ⟨v, hv, d, o, kvs, e, h, r⟩ => ⟨v, hv, d, o, kvs, e, h, r⟩) ev_vt hg hb hs
end
end DL

set_option Elab.async false
set_option linter.all false
set_option maxRecDepth 100000
set_option maxHeartbeats 1000000
/-! More statements at places: extend, reverse, stores of values that change what stands; walks of comprehensions over dicts. -/
namespace DL
open PySem PySem.Spec PyProof.Rows L2
section
variable {X : Cx} {e o k : Expr} {te to tk : TE} {f fk : EF} {fo : PF} {i : Nat} {pos cpos apos ipos tpos : Pos}
/-- p.extend(e), e an own list -/
def sExtP (i : Nat) (fo : PF) (f : EF) : SF := fun env => (fo env).bind fun r => (atP r.2 i r.1).bind fun t0 => match unb t0 with
  | .lst _ => (f r.2).bind fun s => match s.1 with
    | .lst us2 => (atP s.2 i r.1).bind fun t => match unb t with
      | .lst us => if us.length + us2.length < 16000000 then some (.nx, putP s.2 i r.1 (reb t (.lst (us ++ us2)))) else none
      | _ => none
    | _ => none
  | _ => none
theorem ds_extP (ho : DP X o to i fo) (h : DT X e te f) (hb : attributeBase o "extend" X.env (eval o X.env) = eval o X.env := by rfl)
    (hse : starEach [e] X.env = (false, eval e X.env) :: starEach [] X.env := by rfl)
    (hfew : ((backTo cpos (starEach [e] X.env)).all (fun x => !x.1) && (backToKw cpos (keywordEach [] X.env)).all (fun x => x.1.isSome)
      && decide ([e].length + ([] : List Keyword).length + (if ([] : List Keyword).isEmpty then 0 else 1) < 30)) = true := by rfl)
    (hline : (apos.endLine == cpos.line) = true := by rfl)
    (hs : swapsWith (.Call (.Attribute o "extend" apos) [e] [] cpos) none pos.line X.env = pure false := by rfl) :
    DS X (.Expr (.Call (.Attribute o "extend" apos) [e] [] cpos) pos) (tDrop (tBM X.K "list" rExtend to (tCons te tNil))) (sExtP i fo f) [] := by
  refine ⟨ps_expr (pe_bm PySem.F.plainAttrs_list PySem.F.slot_list_extend PySem.F.type_list_extend mt_extend ho.pe (pa_cons h.pe pa_nil hse) hb hfew hline hse rfl) hs, ?_⟩
  intro G0 H0 H ts vs env σ fl env' S g D q
  obtain ⟨⟨P, e1⟩, g1, g2⟩ := obind g
  obtain ⟨t0, g3, g4⟩ := obind g2
  dsimp only at g4
  split at g4
  · rename_i us0 hu0
    obtain ⟨⟨y, e2⟩, g5, g6⟩ := obind g4
    obtain ⟨us2, rfl⟩ : ∃ us2, y = .lst us2 := by
      cases y with
      | lst u => exact ⟨u, rfl⟩
      | _ => cases g6
    · obtain ⟨t, g7, g8⟩ := obind (show (atP e2 i P).bind _ = _ from g6)
      dsimp only at g8
      split at g8
      · rename_i us hu
        split at g8
        · rename_i hl
          cases g8
          refine ho.ok _ _ _ _ _ _ _ _ _ _ S g1 _ fun v w H1 s1 S1 hv hc => ?_
          obtain ⟨tt0, k1, k2⟩ := atP_eq g3
          obtain ⟨G, o1, r, sG⟩ := S1.at' k1 k2 hv hc
          have r := r.unb
          rw [hu0] at r
          obtain ⟨a, xs0, o', h1, h2, _⟩ := r
          subst h1
          refine ⟨.inl ⟨rfl, xs0, .inl (.inl h2)⟩, ?_⟩
          refine h.ok _ _ _ _ _ _ _ _ _ _ S1 g5 _ fun x H2 s2 S2 => ?_
          obtain ⟨tt, k3, k4⟩ := atP_eq g7
          obtain ⟨G2, p1, p2, r1, r2, nd, sG2, fr, wr⟩ := OkS.wr (es := [.lst us2]) (ws := [x]) S2 rfl k3 k4 hv (hc.same s2)
          have ru := r1.unb
          rw [hu] at ru
          obtain ⟨a', xs, o2, h1', h2', h3', h4'⟩ := ru
          cases h1'
          subst h4'
          obtain ⟨x', r', q1, q2, q3, q4, q5, q6⟩ := r2
          cases q3
          obtain ⟨e7, e8⟩ := q5
          cases e7
          subst e8
          rw [List.append_nil] at q6
          subst q6
          obtain ⟨b, zs, o3, f1, f2, f3, f4⟩ := q4
          subst f1; subst f4
          have nd' : (a :: (o2 ++ b :: o3)).Nodup := nd
          have na : a ∉ o2 ++ b :: o3 := (List.nodup_cons.mp nd').1
          refine ⟨a, b, xs, zs, rfl, rfl, h2', f2, by rw [h3'.len, f3.len, sizeLine_eq]; omega, ?_⟩
          have r3 := (h3'.append f3).mono (Same.refl G2) (H' := upd H2 a (.lst (xs ++ zs))) _ (wN fun hm => na (by
            rcases List.mem_append.mp hm with hm | hm
            · simp [hm]
            · simp [hm]))
          have S3 := wr a (.lst (xs ++ zs)) (reb t (.lst (us ++ us2))) [] [] (a :: (o2 ++ o3)) [] [b] (by simp) (r1.reb ⟨a, _, _, rfl, upd_same, r3, rfl⟩) ⟨rfl, rfl⟩ (by
            refine List.perm_iff_count.mpr fun x => ?_
            simp only [List.count_append, List.count_cons, List.count_nil]; omega)
          rw [← putP_eq k3] at S3
          exact q _ _ S3 .rfl'
        · cases g8
      · cases g8
  · cases g4
/-- p.reverse() -/
def sRevP (i : Nat) (fo : PF) : SF := fun env => (fo env).bind fun r => (atP r.2 i r.1).bind fun t => match unb t with
  | .lst us => some (.nx, putP r.2 i r.1 (reb t (.lst us.reverse)))
  | _ => none
theorem RpTs.reverse {K : PySem.W.Frag} {G H : Hp} : ∀ {ts : List T} {vs : List V} {o : List Addr}, RpTs K G H ts vs o → ∃ o', RpTs K G H ts.reverse vs.reverse o' ∧ o'.Perm o
  | [], _, _, h => ⟨[], by rw [h.1]; exact ⟨rfl, rfl⟩, by rw [h.2]⟩
  | t :: ts, _, _, ⟨v, r, o1, o2, h1, h2, h3, h4⟩ => by
    subst h1
    obtain ⟨o', f1, f2⟩ := RpTs.reverse h3
    refine ⟨o' ++ (o1 ++ []), ?_, ?_⟩
    · rw [List.reverse_cons, List.reverse_cons]
      exact f1.append ⟨v, [], o1, [], rfl, h2, ⟨rfl, rfl⟩, rfl⟩
    · rw [h4, List.append_nil]
      exact (List.Perm.append_right _ f2).trans List.perm_append_comm
theorem pe_revM (he : PE X o to) (hb : attributeBase o "reverse" X.env (eval o X.env) = eval o X.env) (hline : (apos.endLine == cpos.line) = true) : PE X (.Call (.Attribute o "reverse" apos) [] [] cpos) (fun σ H Q => to σ H fun x H1 => ∃ l xs, x = .ref l ∧ H1 l = some (.lst xs) ∧ Q .non (upd H1 l (.lst xs.reverse))) := by
  refine ⟨fun pins s σ H Q I h => ?_⟩
  refine wpAny_Call_method0_late hb hline (thn (he.run pins s σ H _ I h) fun v s1 ⟨x, H1, I1, r1, l, xs, e1, e2, q1⟩ => ?_)
  obtain ⟨h1, h2⟩ := tyV_is I1 r1 (T := "list") (by rw [e1]; exact .inl ⟨rfl, xs, .inl (.inl e2)⟩)
  exact ⟨"list", "list.reverse", PySem.F.plainAttrs_list, PySem.F.slot_list_reverse, PySem.F.type_list_reverse, h1, h2, Calls.callWith_builtin rfl (PySem.evalArgs_none (mt_reverse pins s1 σ H1 x [] v [] Q I1 r1 .nil ⟨l, xs, e1, rfl, e2, q1⟩))⟩
theorem ds_revP (ho : DP X o to i fo) (hb : attributeBase o "reverse" X.env (eval o X.env) = eval o X.env := by rfl) (hline : (apos.endLine == cpos.line) = true := by rfl)
    (hs : swapsWith (.Call (.Attribute o "reverse" apos) [] [] cpos) none pos.line X.env = pure false := by rfl) : DS X (.Expr (.Call (.Attribute o "reverse" apos) [] [] cpos) pos) (tDrop fun σ H Q => to σ H fun x H1 => ∃ l xs, x = .ref l ∧ H1 l = some (.lst xs) ∧ Q .non (upd H1 l (.lst xs.reverse))) (sRevP i fo) [] := by
  refine ⟨ps_expr (pe_revM ho.pe hb hline) hs, ?_⟩
  intro G0 H0 H ts vs env σ fl env' S g D q
  obtain ⟨⟨P, e1⟩, g1, g2⟩ := obind g
  obtain ⟨t, g3, g4⟩ := obind g2
  dsimp only at g4
  split at g4
  · rename_i us hu
    cases g4
    refine ho.ok _ _ _ _ _ _ _ _ _ _ S g1 _ fun v w H1 s1 S1 hv hc => ?_
    obtain ⟨tt, k3, k4⟩ := atP_eq g3
    obtain ⟨G2, p1, p2, r1, r2, nd, sG2, fr, wr⟩ := OkS.wr (es := []) (ws := []) S1 rfl k3 k4 hv hc
    have ru := r1.unb
    rw [hu] at ru
    obtain ⟨a, xs, o2, h1, h2, h3, h4⟩ := ru
    subst h1
    subst h4
    have e2' : p2 = [] := r2.2
    subst e2'
    have na : a ∉ o2 := (List.nodup_cons.mp (show (a :: (o2 ++ [])).Nodup from nd)).1 |> fun h hm => h (by simp [hm])
    refine ⟨a, xs, rfl, h2, ?_⟩
    obtain ⟨o4, f1, f2⟩ := (h3.mono (Same.refl G2) (H' := upd H1 a (.lst xs.reverse)) _ (wN na)).reverse
    have S3 := wr a (.lst xs.reverse) (reb t (.lst us.reverse)) [] [] (a :: o4) [] [] (by simp) (r1.reb ⟨a, _, _, rfl, upd_same, f1, rfl⟩) ⟨rfl, rfl⟩ (by
      simp only [List.cons_append, List.append_nil]
      exact List.Perm.cons a f2.symm)
    rw [← putP_eq k3] at S3
    exact q _ _ S3 .rfl'
  · cases g4
/-- p[k] = e, e one that changes what stands -/
theorem ds_putPX (hu : X.A.units + 1 < cLine) (ho : DP X o to i fo) (hk : DT X k tk fk) (h : DX X e te f) (hs : swapsWith e (some (.Subscript o k ipos)) pos.line X.env = pure false := by rfl) : DS X (.Assign [.Subscript o k ipos] e pos) (sDPut to tk te) (sPutP i fo fk f) [] := by
  refine ⟨ps_dput hu ho.pe hk.pe h.pe hs, ?_⟩
  intro G0 H0 H ts vs env σ fl env' S g D q
  obtain ⟨⟨y, e1⟩, g1, g2⟩ := obind g
  obtain ⟨⟨P, e2⟩, g3, g4⟩ := obind g2
  obtain ⟨⟨z, e3⟩, g5, g6⟩ := obind g4
  obtain ⟨kk, g7, g8⟩ := obind g6
  obtain ⟨t, g9, g10⟩ := obind g8
  dsimp only at g10
  split at g10
  · rename_i kvs hun
    split at g10
    · rename_i hl
      cases g10
      cases z with
      | p kd =>
        refine h.ok _ _ _ _ _ _ _ _ _ S g1 _ fun x H1 S1 => ?_
        refine ho.ok _ _ _ _ _ _ _ _ _ _ S1 g3 _ fun v w H2 s2 S2 hv hc => ?_
        refine hk.ok _ _ _ _ _ _ _ _ _ _ S2 g5 _ fun kx H3 s3 S3 => ?_
        have ek : kx = L2.kV kk := keyD_rp (show keyD kd = some kk from g7) S3.top
        obtain ⟨tt, k3, k4⟩ := atP_eq g9
        obtain ⟨G2, p1, p2, r1, r2, nd, sG2, fr, wr⟩ := OkS.wr (es := [y]) (ws := [x]) S3.pop rfl k3 k4 hv (hc.same s3)
        have ru := r1.unb
        rw [hun] at ru
        obtain ⟨a, xs, o2, h1, h2, h3, h4⟩ := ru
        subst h1; subst h4
        have na : a ∉ o2 ++ p2 := (List.nodup_cons.mp (show (a :: (o2 ++ p2)).Nodup from nd)).1
        refine ⟨a, _, rfl, by rw [ek]; exact DPut.k h2 (by rw [h3.len, sizeLine_eq]; omega), ?_⟩
        obtain ⟨x', r', q1, q2, q3, q4, q5, q6⟩ := r2
        cases q3
        obtain ⟨e7, e8⟩ := q5
        cases e7
        subst e8
        rw [List.append_nil] at q6
        subst q6
        have m1 := h3.mono (Same.refl G2) (H' := upd H3 a (.dK (putK xs kk x))) _ (wN fun hm => na (by simp [hm]))
        have m2 := q4.mono (Same.refl G2) (H' := upd H3 a (.dK (putK xs kk x))) _ (wN fun hm => na (by simp [hm]))
        obtain ⟨o5, rest, f1, f2⟩ := m1.put m2 hl.2
        have S4 := wr a (.dK (putK xs kk x)) (reb t (.dic (putT kvs kk y))) [] [] (a :: o5) [] rest (by simp) (r1.reb ⟨a, _, _, rfl, upd_same, f1, rfl⟩) ⟨rfl, rfl⟩ (by
          simp only [List.cons_append, List.append_nil]
          exact List.Perm.cons a f2)
        rw [← putP_eq k3] at S4
        exact q _ _ S4 .rfl'
      | _ => cases g7
    · cases g10
  · cases g10
/-- x.append(e), e one that changes what stands -/
theorem ds_appX (ho : DP X o to i (pNm i)) (h : DX X e te f) (hb : attributeBase o "append" X.env (eval o X.env) = eval o X.env := by rfl)
    (hse : starEach [e] X.env = (false, eval e X.env) :: starEach [] X.env := by rfl)
    (hfew : ((backTo cpos (starEach [e] X.env)).all (fun x => !x.1) && (backToKw cpos (keywordEach [] X.env)).all (fun x => x.1.isSome)
      && decide ([e].length + ([] : List Keyword).length + (if ([] : List Keyword).isEmpty then 0 else 1) < 30)) = true := by rfl)
    (hline : (apos.endLine == cpos.line) = true := by rfl)
    (hs : swapsWith (.Call (.Attribute o "append" apos) [e] [] cpos) none pos.line X.env = pure false := by rfl) :
    DS X (.Expr (.Call (.Attribute o "append" apos) [e] [] cpos) pos) (tDrop (tBM X.K "list" rAppend to (tCons te tNil))) (sAppP i (pNm i) f) [] := by
  refine ⟨ps_expr (pe_bm PySem.F.plainAttrs_list PySem.F.slot_list_append PySem.F.type_list_append mt_append ho.pe (pa_cons h.pe pa_nil hse) hb hfew hline hse rfl) hs, ?_⟩
  intro G0 H0 H ts vs env σ fl env' S g D q
  obtain ⟨⟨P, e1⟩, g1, g2⟩ := obind g
  have hP : P = [] := by
    unfold pNm at g1
    split at g1
    · cases g1; rfl
    · cases g1
  subst hP
  obtain ⟨t0, g3, g4⟩ := obind g2
  dsimp only at g4
  split at g4
  · rename_i us0 hu0
    obtain ⟨⟨y, e2⟩, g5, g6⟩ := obind g4
    obtain ⟨t, g7, g8⟩ := obind g6
    dsimp only at g8
    split at g8
    · rename_i us hu
      split at g8
      · rename_i hl
        cases g8
        refine ho.ok _ _ _ _ _ _ _ _ _ _ S g1 _ fun v w H1 s1 S1 hv hc => ?_
        obtain ⟨tt0, k1, k2⟩ := atP_eq g3
        obtain ⟨G, o1, r, sG⟩ := S1.at' k1 k2 hv hc
        have r := r.unb
        rw [hu0] at r
        obtain ⟨a, xs0, o', h1, h2, _⟩ := r
        subst h1
        refine ⟨.inl ⟨rfl, xs0, .inl (.inl h2)⟩, ?_⟩
        refine h.ok _ _ _ _ _ _ _ _ _ S1 g5 _ fun x H2 S2 => ?_
        obtain ⟨tt, k3, k4⟩ := atP_eq g7
        obtain ⟨G2, p1, p2, r1, r2, nd, sG2, fr, wr⟩ := OkS.wr (es := [y]) (ws := [x]) S2 rfl k3 k4 hv (show Ch H2 [] v (.ref a) from hc)
        have ru := r1.unb
        rw [hu] at ru
        obtain ⟨a', xs, o2, h1', h2', h3', h4'⟩ := ru
        cases h1'
        subst h4'
        have nd' : (a :: (o2 ++ p2)).Nodup := nd
        have na : a ∉ o2 ++ p2 := (List.nodup_cons.mp nd').1
        refine ⟨a, xs, x, rfl, rfl, h2', by rw [h3'.len, sizeLine_eq]; omega, ?_⟩
        have r3 := (h3'.append r2).mono (Same.refl G2) (H' := upd H2 a (.lst (xs ++ [x]))) _ (wN na)
        have S3 := wr a (.lst (xs ++ [x])) (reb t (.lst (us ++ [y]))) [] [] (a :: (o2 ++ p2)) [] [] (by simp) (r1.reb ⟨a, _, _, rfl, upd_same, r3, rfl⟩) ⟨rfl, rfl⟩ (by simp)
        rw [← putP_eq k3] at S3
        exact q _ _ S3 .rfl'
      · cases g8
    · cases g8
  · cases g4
end
end DL

set_option Elab.async false
set_option linter.all false
set_option maxRecDepth 100000
/-! The combinators of places once more without binders. -/
namespace DL
open PySem PySem.Spec PyProof.Rows L2
variable {env e : Env} {i j n k : Nat} {t u : T} {ts us : List T} {d a b : D} {ds es : List D} {fa fb fc f fk fx : EF} {r : AF} {F1 F2 F : SF} {G : GF} {z w : Int} {P : List Stp} {fo : PF} {ky : Key} {kvs : List (Key × T)} {nm fn : Str} {fs : List (Str × T)} {ad : Addr} {kd : List (Key × D)}
-- places of names
def kPN (env : Env) : Option (Option T) → Option (List Stp × Env)
  | some (some _) => some ([], env)
  | _ => none
theorem pNm_q : pNm i env = kPN env env[i]? := id rfl
theorem kPN_s : kPN env (some (some t)) = some ([], env) := id rfl
-- reading and writing a place
theorem unb_l : unb (.lst ts) = .lst ts := id rfl
theorem unb_d : unb (.dic kvs) = .dic kvs := id rfl
theorem unb_o : unb (.obj nm fs) = .obj nm fs := id rfl
theorem unb_t : unb (.tup ts) = .tup ts := id rfl
theorem unb_p : unb (.p d) = .p d := id rfl
theorem unb_b : unb (.box ad t) = t := id rfl
theorem reb_l : reb (.lst ts) u = u := id rfl
theorem reb_d : reb (.dic kvs) u = u := id rfl
theorem reb_o : reb (.obj nm fs) u = u := id rfl
theorem reb_t : reb (.tup ts) u = u := id rfl
theorem reb_p : reb (.p d) u = u := id rfl
theorem reb_b : reb (.box ad t) u = .box ad u := id rfl
def kAtP (P : List Stp) : Option (Option T) → Option T
  | some (some t) => getP P t
  | _ => none
theorem atP_q : atP env i P = kAtP P env[i]? := id rfl
theorem kAtP_s : kAtP P (some (some t)) = getP P t := id rfl
theorem getP_n : getP [] t = some t := id rfl
theorem getP_c {s : Stp} : getP (s :: P) t = (stepT s (unb t)).bind (getP P) := id rfl
theorem stepT_k : stepT (.key ky) (.dic kvs) = valT kvs ky := id rfl
theorem stepT_ix : stepT (.ix n) (.lst ts) = ts[n]? := id rfl
theorem stepT_it : stepT (.it n) (.tup ts) = ts[n]? := id rfl
theorem stepT_f : stepT (.fld fn) (.obj nm fs) = valT fs fn := id rfl
def kPutP (env : Env) (i : Nat) (P : List Stp) (u : T) : Option (Option T) → Env
  | some (some t) => env.set i (some (setP P t u))
  | _ => env
theorem putP_q : putP env i P u = kPutP env i P u env[i]? := id rfl
theorem kPutP_s : kPutP env i P u (some (some t)) = env.set i (some (setP P t u)) := id rfl
def kSP (s : Stp) (P : List Stp) (t u : T) : Option T → T
  | some c => reb t (setS s (unb t) (setP P c u))
  | none => t
theorem setP_n : setP [] t u = u := id rfl
theorem setP_c {s : Stp} : setP (s :: P) t u = kSP s P t u (stepT s (unb t)) := id rfl
theorem kSP_s {s : Stp} {c : T} : kSP s P t u (some c) = reb t (setS s (unb t) (setP P c u)) := id rfl
theorem setS_k : setS (.key ky) (.dic kvs) u = .dic (setT kvs ky u) := id rfl
theorem setS_ix : setS (.ix n) (.lst ts) u = .lst (ts.set n u) := id rfl
theorem setS_it : setS (.it n) (.tup ts) u = .tup (ts.set n u) := id rfl
theorem setS_f : setS (.fld fn) (.obj nm fs) u = .obj nm (setT fs fn u) := id rfl
-- o.f, o[k], o[n] as places
def kPF3 (P : List Stp) (f : Str) (e : Env) (_ : T) : List Stp × Env := (P ++ [.fld f], e)
theorem kPF3_q : kPF3 P fn e t = (P ++ [.fld fn], e) := id rfl
def kPF2 (n f : Str) (P : List Stp) (e : Env) (t : T) : Option (List Stp × Env) := match unb t with
  | .obj m fs => if m = n then (valT fs f).map (kPF3 P f e) else none
  | _ => none
def kPF1 (n f : Str) (i : Nat) (r : List Stp × Env) : Option (List Stp × Env) := (atP r.2 i r.1).bind (kPF2 n f r.1 r.2)
theorem pFld_q : pFld nm fn i fo env = (fo env).bind (kPF1 nm fn i) := id rfl
theorem kPF1_q : kPF1 nm fn i (P, e) = (atP e i P).bind (kPF2 nm fn P e) := id rfl
theorem kPF2_o : kPF2 nm fn P e (.obj nm fs) = (valT fs fn).map (kPF3 P fn e) := if_pos rfl
theorem kPF2_b : kPF2 nm fn P e (.box ad (.obj nm fs)) = (valT fs fn).map (kPF3 P fn e) := if_pos rfl
def kPK4 (P : List Stp) (e : Env) (k : Key) (_ : T) : List Stp × Env := (P ++ [.key k], e)
theorem kPK4_q : kPK4 P e ky t = (P ++ [.key ky], e) := id rfl
def kPK3 (P : List Stp) (e : Env) (k : Key) (t : T) : Option (List Stp × Env) := match unb t with
  | .dic kvs => (valT kvs k).map (kPK4 P e k)
  | _ => none
def kPK2 (i : Nat) (P : List Stp) (e : Env) (k : Key) : Option (List Stp × Env) := (atP e i P).bind (kPK3 P e k)
def kPK1 (i : Nat) (P : List Stp) (s : T × Env) : Option (List Stp × Env) := (keyT s.1).bind (kPK2 i P s.2)
def kPK0 (i : Nat) (fk : EF) (r : List Stp × Env) : Option (List Stp × Env) := (fk r.2).bind (kPK1 i r.1)
theorem pKey_q : pKey i fo fk env = (fo env).bind (kPK0 i fk) := id rfl
theorem kPK0_q : kPK0 i fk (P, e) = (fk e).bind (kPK1 i P) := id rfl
theorem kPK1_q : kPK1 i P (t, e) = (keyT t).bind (kPK2 i P e) := id rfl
theorem kPK2_q : kPK2 i P e ky = (atP e i P).bind (kPK3 P e ky) := id rfl
theorem kPK3_d : kPK3 P e ky (.dic kvs) = (valT kvs ky).map (kPK4 P e ky) := id rfl
theorem kPK3_b : kPK3 P e ky (.box ad (.dic kvs)) = (valT kvs ky).map (kPK4 P e ky) := id rfl
def kPI5 (s : Stp) (P : List Stp) (e : Env) (_ : T) : List Stp × Env := (P ++ [s], e)
theorem kPI5_q {s : Stp} : kPI5 s P e t = (P ++ [s], e) := id rfl
def kPI4 (tp : Bool) (P : List Stp) (e : Env) (ts : List T) (j : Nat) : Option (List Stp × Env) := (ts[j]?).map (kPI5 (if tp then .it j else .ix j) P e)
theorem kPI4_t : kPI4 true P e ts j = (ts[j]?).map (kPI5 (.it j) P e) := id rfl
theorem kPI4_l : kPI4 false P e ts j = (ts[j]?).map (kPI5 (.ix j) P e) := id rfl
def kPI3 (P : List Stp) (e : Env) (z : Int) (t : T) : Option (List Stp × Env) := match unb t with
  | .lst ts => (ixN ts.length z).bind (kPI4 false P e ts)
  | .tup ts => (ixN ts.length z).bind (kPI4 true P e ts)
  | _ => none
def kPI2 (i : Nat) (P : List Stp) (s : T × Env) : Option (List Stp × Env) := match s.1 with
  | .p (.int z) => (atP s.2 i P).bind (kPI3 P s.2 z)
  | _ => none
def kPI1 (i : Nat) (fk : EF) (r : List Stp × Env) : Option (List Stp × Env) := (fk r.2).bind (kPI2 i r.1)
theorem pIx_q : pIx i fo fk env = (fo env).bind (kPI1 i fk) := id rfl
theorem kPI1_q : kPI1 i fk (P, e) = (fk e).bind (kPI2 i P) := id rfl
theorem kPI2_q : kPI2 i P (.p (.int z), e) = (atP e i P).bind (kPI3 P e z) := id rfl
theorem kPI3_l : kPI3 P e z (.lst ts) = (ixN ts.length z).bind (kPI4 false P e ts) := id rfl
theorem kPI3_t : kPI3 P e z (.tup ts) = (ixN ts.length z).bind (kPI4 true P e ts) := id rfl
-- views
def kFl (n f : Str) (r : T × Env) : Option (T × Env) := (valF n f (unb r.1)).map (kT2 r.2)
theorem eFl_q : eFl nm fn f env = (f env).bind (kFl nm fn) := id rfl
theorem kFl_q : kFl nm fn (t, e) = (valF nm fn (unb t)).map (kT2 e) := id rfl
theorem valF_o : valF nm fn (.obj nm fs) = valT fs fn := if_pos rfl
def kDk3 (t : T) (e : Env) (k : Key) : Option (T × Env) := (valK k (unb t)).map (kT2 e)
def kDk2 (t : T) (s : T × Env) : Option (T × Env) := (keyT s.1).bind (kDk3 t s.2)
def kDk1 (fk : EF) (r : T × Env) : Option (T × Env) := (fk r.2).bind (kDk2 r.1)
theorem eDk_q : eDk f fk env = (f env).bind (kDk1 fk) := id rfl
theorem kDk1_q : kDk1 fk (t, e) = (fk e).bind (kDk2 t) := id rfl
theorem kDk2_q : kDk2 t (u, e) = (keyT u).bind (kDk3 t e) := id rfl
theorem kDk3_q : kDk3 t e ky = (valK ky (unb t)).map (kT2 e) := id rfl
theorem valK_d : valK ky (.dic kvs) = valT kvs ky := id rfl
theorem valK_p : valK ky (.p (.dic kd)) = (valD kd ky).map T.p := id rfl
-- stores
def kAp4 (i : Nat) (P : List Stp) (x : T) (e : Env) (t : T) : Option (Fl × Env) := match unb t with
  | .lst us => if us.length < 16000000 then some (.nx, putP e i P (reb t (.lst (us ++ [x])))) else none
  | _ => none
def kAp3 (i : Nat) (P : List Stp) (s : T × Env) : Option (Fl × Env) := (atP s.2 i P).bind (kAp4 i P s.1 s.2)
def kAp2 (i : Nat) (f : EF) (P : List Stp) (e : Env) (t : T) : Option (Fl × Env) := match unb t with
  | .lst _ => (f e).bind (kAp3 i P)
  | _ => none
def kAp1 (i : Nat) (f : EF) (r : List Stp × Env) : Option (Fl × Env) := (atP r.2 i r.1).bind (kAp2 i f r.1 r.2)
theorem sAppP_q : sAppP i fo f env = (fo env).bind (kAp1 i f) := by
  unfold sAppP; congr 1
theorem kAp1_q : kAp1 i f (P, e) = (atP e i P).bind (kAp2 i f P e) := id rfl
theorem kAp2_l : kAp2 i f P e (.lst us) = (f e).bind (kAp3 i P) := id rfl
theorem kAp2_b : kAp2 i f P e (.box ad (.lst us)) = (f e).bind (kAp3 i P) := id rfl
theorem kAp3_q : kAp3 i P (t, e) = (atP e i P).bind (kAp4 i P t e) := id rfl
theorem kAp4_l : kAp4 i P t e (.lst us) = if us.length < 16000000 then some (.nx, putP e i P (.lst (us ++ [t]))) else none := id rfl
theorem kAp4_b : kAp4 i P t e (.box ad (.lst us)) = if us.length < 16000000 then some (.nx, putP e i P (.box ad (.lst (us ++ [t])))) else none := id rfl
def kEx4 (i : Nat) (P : List Stp) (us2 : List T) (e : Env) (t : T) : Option (Fl × Env) := match unb t with
  | .lst us => if us.length + us2.length < 16000000 then some (.nx, putP e i P (reb t (.lst (us ++ us2)))) else none
  | _ => none
def kEx3 (i : Nat) (P : List Stp) (s : T × Env) : Option (Fl × Env) := match s.1 with
  | .lst us2 => (atP s.2 i P).bind (kEx4 i P us2 s.2)
  | _ => none
def kEx2 (i : Nat) (f : EF) (P : List Stp) (e : Env) (t : T) : Option (Fl × Env) := match unb t with
  | .lst _ => (f e).bind (kEx3 i P)
  | _ => none
def kEx1 (i : Nat) (f : EF) (r : List Stp × Env) : Option (Fl × Env) := (atP r.2 i r.1).bind (kEx2 i f r.1 r.2)
theorem sExtP_q : sExtP i fo f env = (fo env).bind (kEx1 i f) := by
  unfold sExtP; congr 1
theorem kEx1_q : kEx1 i f (P, e) = (atP e i P).bind (kEx2 i f P e) := id rfl
theorem kEx2_l : kEx2 i f P e (.lst us) = (f e).bind (kEx3 i P) := id rfl
theorem kEx3_q : kEx3 i P (.lst ts, e) = (atP e i P).bind (kEx4 i P ts e) := id rfl
theorem kEx4_l : kEx4 i P ts e (.lst us) = if us.length + ts.length < 16000000 then some (.nx, putP e i P (.lst (us ++ ts))) else none := id rfl
def kRv2 (i : Nat) (P : List Stp) (e : Env) (t : T) : Option (Fl × Env) := match unb t with
  | .lst us => some (.nx, putP e i P (reb t (.lst us.reverse)))
  | _ => none
def kRv1 (i : Nat) (r : List Stp × Env) : Option (Fl × Env) := (atP r.2 i r.1).bind (kRv2 i r.1 r.2)
theorem sRevP_q : sRevP i fo env = (fo env).bind (kRv1 i) := by
  unfold sRevP; congr 1
theorem kRv1_q : kRv1 i (P, e) = (atP e i P).bind (kRv2 i P e) := id rfl
theorem kRv2_l : kRv2 i P e (.lst us) = some (.nx, putP e i P (.lst us.reverse)) := id rfl
def kPp5 (i : Nat) (x : T) (P : List Stp) (e : Env) (k : Key) (t : T) : Option (Fl × Env) := match unb t with
  | .dic kvs => if kvs.length < 16000000 ∧ okPut kvs k x = true then some (.nx, putP e i P (reb t (.dic (putT kvs k x)))) else none
  | _ => none
def kPp4 (i : Nat) (x : T) (P : List Stp) (e : Env) (k : Key) : Option (Fl × Env) := (atP e i P).bind (kPp5 i x P e k)
def kPp3 (i : Nat) (x : T) (P : List Stp) (s : T × Env) : Option (Fl × Env) := (keyT s.1).bind (kPp4 i x P s.2)
def kPp2 (i : Nat) (fk : EF) (x : T) (p : List Stp × Env) : Option (Fl × Env) := (fk p.2).bind (kPp3 i x p.1)
def kPp1 (i : Nat) (fo : PF) (fk : EF) (r : T × Env) : Option (Fl × Env) := (fo r.2).bind (kPp2 i fk r.1)
theorem sPutP_q : sPutP i fo fk f env = (f env).bind (kPp1 i fo fk) := by
  unfold sPutP; congr 1
theorem kPp1_q : kPp1 i fo fk (t, e) = (fo e).bind (kPp2 i fk t) := id rfl
theorem kPp2_q : kPp2 i fk t (P, e) = (fk e).bind (kPp3 i t P) := id rfl
theorem kPp3_q : kPp3 i t P (u, e) = (keyT u).bind (kPp4 i t P e) := id rfl
theorem kPp4_q : kPp4 i t P e ky = (atP e i P).bind (kPp5 i t P e ky) := id rfl
theorem kPp5_d : kPp5 i t P e ky (.dic kvs) = if kvs.length < 16000000 ∧ okPut kvs ky t = true then some (.nx, putP e i P (.dic (putT kvs ky t))) else none := id rfl
theorem kPp5_b : kPp5 i t P e ky (.box ad (.dic kvs)) = if kvs.length < 16000000 ∧ okPut kvs ky t = true then some (.nx, putP e i P (.box ad (.dic (putT kvs ky t)))) else none := id rfl
def kFp3 (i : Nat) (n a : Str) (x : T) (P : List Stp) (e : Env) (t : T) : Option (Fl × Env) := match unb t with
  | .obj m fs => if m = n ∧ fs.length < 900 then some (.nx, putP e i P (reb t (.obj m (putFT fs a x)))) else none
  | _ => none
def kFp2 (i : Nat) (n a : Str) (x : T) (p : List Stp × Env) : Option (Fl × Env) := (atP p.2 i p.1).bind (kFp3 i n a x p.1 p.2)
def kFp1 (i : Nat) (n a : Str) (fo : PF) (r : T × Env) : Option (Fl × Env) := (fo r.2).bind (kFp2 i n a r.1)
theorem sFldP_q : sFldP nm fn i fo f env = (f env).bind (kFp1 i nm fn fo) := by
  unfold sFldP; congr 1
theorem kFp1_q : kFp1 i nm fn fo (t, e) = (fo e).bind (kFp2 i nm fn t) := id rfl
theorem kFp2_q : kFp2 i nm fn t (P, e) = (atP e i P).bind (kFp3 i nm fn t P e) := id rfl
theorem kFp3_o : kFp3 i nm fn t P e (.obj nm fs) = if fs.length < 900 then some (.nx, putP e i P (.obj nm (putFT fs fn t))) else none := by
  show (if nm = nm ∧ _ then _ else _) = _
  by_cases h : fs.length < 900
  · rw [if_pos ⟨rfl, h⟩, if_pos h]; rfl
  · rw [if_neg (fun x => h x.2), if_neg h]
-- d.pop(k, x)
def kPo7 (i : Nat) (P : List Stp) (x : T) (e : Env) (k : Key) (t : T) (kvs : List (Key × T)) : Option T → T × Env
  | some u => (u, putP e i P (reb t (.dic (dropT kvs k))))
  | none => (x, e)
def kPo6 (i : Nat) (P : List Stp) (x : T) (e : Env) (k : Key) (t : T) : Option (T × Env) := match unb t with
  | .dic kvs => some (kPo7 i P x e k t kvs (valT kvs k))
  | _ => none
def kPo5 (i : Nat) (P : List Stp) (x : T) (e : Env) (k : Key) : Option (T × Env) := (atP e i P).bind (kPo6 i P x e k)
def kPo4 (i : Nat) (P : List Stp) (u : T) (x : T × Env) : Option (T × Env) := (keyT u).bind (kPo5 i P x.1 x.2)
def kPo3 (i : Nat) (fx : EF) (P : List Stp) (s : T × Env) : Option (T × Env) := (fx s.2).bind (kPo4 i P s.1)
def kPo2 (i : Nat) (fk fx : EF) (P : List Stp) (e : Env) (t : T) : Option (T × Env) := match unb t with
  | .dic _ => (fk e).bind (kPo3 i fx P)
  | _ => none
def kPo1 (i : Nat) (fk fx : EF) (r : List Stp × Env) : Option (T × Env) := (atP r.2 i r.1).bind (kPo2 i fk fx r.1 r.2)
theorem ePop_q : ePop i fo fk fx env = (fo env).bind (kPo1 i fk fx) := by
  unfold ePop; congr 1
theorem kPo1_q : kPo1 i fk fx (P, e) = (atP e i P).bind (kPo2 i fk fx P e) := id rfl
theorem kPo2_d : kPo2 i fk fx P e (.dic kvs) = (fk e).bind (kPo3 i fx P) := id rfl
theorem kPo3_q : kPo3 i fx P (t, e) = (fx e).bind (kPo4 i P t) := id rfl
theorem kPo4_q : kPo4 i P u (t, e) = (keyT u).bind (kPo5 i P t e) := id rfl
theorem kPo5_q : kPo5 i P t e ky = (atP e i P).bind (kPo6 i P t e ky) := id rfl
theorem kPo6_d : kPo6 i P t e ky (.dic kvs) = some (kPo7 i P t e ky (.dic kvs) kvs (valT kvs ky)) := id rfl
theorem kPo7_n : kPo7 i P t e ky u kvs none = (t, e) := id rfl
theorem kPo7_d {t' : T} : kPo7 i P t e ky (.dic us') kvs (some t') = (t', putP e i P (.dic (dropT kvs ky))) := id rfl
-- lent things
variable {φ : T → List D → Option (T × T)}
def kCM5 (i : Nat) (P : List Stp) (e : Env) (z : T × T) : T × Env := (z.1, putP e i P z.2)
theorem kCM5_q : kCM5 i P e (t, u) = (t, putP e i P u) := id rfl
def kCM4 (φ : T → List D → Option (T × T)) (i : Nat) (P : List Stp) (e : Env) (ds : List D) (t0 : T) : Option (T × Env) := (φ t0 ds).map (kCM5 i P e)
theorem kCM4_q : kCM4 φ i P e ds t = (φ t ds).map (kCM5 i P e) := id rfl
def kCM3 (φ : T → List D → Option (T × T)) (i : Nat) (P : List Stp) (e : Env) (ds : List D) : Option (T × Env) := (atP e i P).bind (kCM4 φ i P e ds)
theorem kCM3_q : kCM3 φ i P e ds = (atP e i P).bind (kCM4 φ i P e ds) := id rfl
def kCM2 (φ : T → List D → Option (T × T)) (i : Nat) (P : List Stp) (s : List T × Env) : Option (T × Env) := (allP s.1).bind (kCM3 φ i P s.2)
theorem kCM2_q : kCM2 φ i P (ts, e) = (allP ts).bind (kCM3 φ i P e) := id rfl
def kCM1 (φ : T → List D → Option (T × T)) (i : Nat) (fr : AF) (x : List Stp × Env) : Option (T × Env) := (fr x.2).bind (kCM2 φ i x.1)
theorem kCM1_q : kCM1 φ i r (P, e) = (r e).bind (kCM2 φ i P) := id rfl
theorem eCallM_q : eCallM φ i fo r env = (fo env).bind (kCM1 φ i r) := id rfl
def kRM2 (fl : Fl) : Option (Option T) → Option (T × T)
  | some (some t') => match fl with
    | .rt t => some (t, t')
    | .nx => some (.p .non, t')
    | _ => none
  | _ => none
def kRM (r : Fl × Env) : Option (T × T) := kRM2 r.1 r.2[0]?
theorem kRM_q {fl : Fl} : kRM (fl, e) = kRM2 fl e[0]? := id rfl
theorem kRM2_r : kRM2 (.rt t) (some (some u)) = some (t, u) := id rfl
theorem kRM2_n : kRM2 .nx (some (some u)) = some (.p .non, u) := id rfl
theorem runM_q : runM n k F t ds = if ds.length = k then (F (startM n t ds)).bind kRM else none := by
  unfold runM
  by_cases h : ds.length = k
  · rw [if_pos h, if_pos h]; congr 1
  · rw [if_neg h, if_neg h]
theorem startM_q : startM n t ds = some t :: startE (n - 1) ds := id rfl
-- dicts as wholes
def kKl (e : Env) (ks : List Key) : T × Env := (.lst ((ks.map kD).map T.p), e)
theorem kKl_q {ks : List Key} : kKl e ks = (.lst ((ks.map kD).map T.p), e) := id rfl
def kKL (r : T × Env) : Option (T × Env) := (keysT (unb r.1)).map (kKl r.2)
theorem eKeysL_q : eKeysL f env = (f env).bind kKL := id rfl
theorem kKL_q : kKL (t, e) = (keysT (unb t)).map (kKl e) := id rfl
theorem keysT_d : keysT (.dic kvs) = some (kvs.map (·.1)) := id rfl
def kVl (e : Env) (kd : List (Key × D)) : T × Env := (.lst ((kd.map (·.2)).map T.p), e)
theorem kVl_q : kVl e kd = (.lst ((kd.map (·.2)).map T.p), e) := id rfl
def kVL (r : T × Env) : Option (T × Env) := (dicT (unb r.1)).map (kVl r.2)
theorem eValsL_q : eValsL f env = (f env).bind kVL := id rfl
theorem kVL_q : kVL (t, e) = (dicT (unb t)).map (kVl e) := id rfl
def kDC2 (e : Env) (kd : List (Key × D)) : T × Env := (.dic (pairsT kd), e)
theorem kDC2_q : kDC2 e kd = (.dic (pairsT kd), e) := id rfl
def kDC (r : T × Env) : Option (T × Env) := (dicT (unb r.1)).map (kDC2 r.2)
theorem eDictC_q : eDictC f env = (f env).bind kDC := id rfl
theorem kDC_q : kDC (t, e) = (dicT (unb t)).map (kDC2 e) := id rfl
def kDP3 (e : Env) (kd : List (Key × D)) : T × Env := (.dic (pairsT (mergeD [] kd)), e)
theorem kDP3_q : kDP3 e kd = (.dic (pairsT (mergeD [] kd)), e) := id rfl
def kDP2 (t : T) (e : Env) (ds : List D) : Option (T × Env) := if isLT t = true then (pairsD ds).map (kDP3 e) else none
theorem kDP2_q : kDP2 t e ds = if isLT t = true then (pairsD ds).map (kDP3 e) else none := id rfl
def kDP (r : T × Env) : Option (T × Env) := (itemsT r.1).bind (kDP2 r.1 r.2)
theorem eDictP_q : eDictP f env = (f env).bind kDP := id rfl
theorem kDP_q : kDP (t, e) = (itemsT t).bind (kDP2 t e) := id rfl
def kDc (mk : Key × D → D) (r : T × Env) : Option (List D × Env) := match r.1 with
  | .p (.dic kvs) => some (kvs.map mk, r.2)
  | _ => none
theorem iDic_q {mk : Key × D → D} : iDic mk f env = (f env).bind (kDc mk) := id rfl
theorem kDc_q {mk : Key × D → D} : kDc mk (.p (.dic kd), e) = some (kd.map mk, e) := id rfl
theorem kV_dt : kV env i (some (some (.dic kvs))) = some (.p (T.dic kvs).toD, env.set i (some (.p (T.dic kvs).toD))) := id rfl
end DL

set_option Elab.async false
set_option linter.all false
set_option maxRecDepth 100000
set_option maxHeartbeats 1000000
/-! What is known of a class stays known where less is written. -/
namespace DL
open PySem PySem.Spec PyProof.Rows L2
section
variable {K K' : PySem.W.Frag}
theorem Less.ns (L : Less K K') {ns : Addr} {name : Str} {r : Option Value} (h : PySem.W.nsIn K ns name = some r) : PySem.W.nsIn K' ns name = some r := by
  unfold PySem.W.nsIn at h ⊢
  split at h
  · rename_i e
    rw [L _ _ e fun ⟨_, _, _, e⟩ => nomatch e]
    exact h
  · cases h
theorem Less.own (L : Less K K') {name : Str} {c : Value} {r : Option Value} (h : PySem.W.ownIn K name c = some r) : PySem.W.ownIn K' name c = some r := by
  cases c with
  | ref a =>
    unfold PySem.W.ownIn at h ⊢
    dsimp only at h ⊢
    split at h
    · rename_i e
      rw [L _ _ e fun ⟨_, _, _, e⟩ => nomatch e]
      exact L.ns h
    · cases h
  | _ => exact h
theorem Less.along (L : Less K K') {name : Str} : ∀ {cs : List Value} {r : Option Value}, PySem.W.alongIn K name cs = some r → PySem.W.alongIn K' name cs = some r
  | [], _, h => h
  | c :: cs, r, h => by
    unfold PySem.W.alongIn at h ⊢
    split at h
    · rename_i e
      rw [L.own e]; exact h
    · rename_i e
      rw [L.own e]; exact Less.along L h
    · cases h
theorem Less.find (L : Less K K') {t : Value} {name : Str} {r : Option Value} (h : PySem.W.findIn K t name = some r) : PySem.W.findIn K' t name = some r := by
  cases t with
  | ref a =>
    unfold PySem.W.findIn at h ⊢
    dsimp only at h ⊢
    split at h
    · rename_i e
      rw [L _ _ e fun ⟨_, _, _, e⟩ => nomatch e]
      exact L.along h
    · cases h
  | _ => exact h
theorem Less.cls (L : Less K K') {C : Addr} {cd : ClassData} (h : PySem.W.clsIn K C = some cd) : PySem.W.clsIn K' C = some cd := by
  unfold PySem.W.clsIn at h ⊢
  split at h
  · rename_i e
    rw [L _ _ e fun ⟨_, _, _, e⟩ => nomatch e]
    exact h
  · cases h
theorem Less.clsAny (L : Less K K') {C : Addr} {p : ClassData → Bool} (h : (PySem.W.clsIn K C).any p = true) : (PySem.W.clsIn K' C).any p = true := by
  cases e : PySem.W.clsIn K C with
  | none => rw [e] at h; cases h
  | some cd => rw [e] at h; rw [L.cls e]; exact h
theorem Less.Cls (L : Less K K') {C : Addr} (c : L2.Cls K C) : L2.Cls K' C := by
  obtain ⟨pg, hd, po, sa⟩ := c
  refine ⟨?_, L.clsAny hd, L.clsAny po, L.find sa⟩
  unfold PySem.W.plainGet at pg ⊢
  rw [Bool.and_eq_true, beq_iff_eq, beq_iff_eq] at pg ⊢
  exact ⟨L.find pg.1, L.find pg.2⟩
theorem Less.NoAttr (L : Less K K') {C : Addr} {f : Str} (n : L2.NoAttr K C f) : L2.NoAttr K' C f := L.find n
theorem Less.ClsN (L : Less K K') {n : Str} {C : Addr} (h : DL.ClsN K n C) : DL.ClsN K' n C := L.ns h
theorem Less.isFn (L : Less K K') {f : Addr} (h : PySem.W.isFn K (.ref f) = true) : PySem.W.isFn K' (.ref f) = true := by
  unfold PySem.W.isFn at h ⊢
  rw [beq_iff_eq] at h ⊢
  obtain ⟨o, h1, h2⟩ := Option.map_eq_some_iff.mp (show (K.lookup f).map (·.cls) = some (.type "function") from h)
  show (K'.lookup f).map (·.cls) = some (.type "function")
  rw [L _ _ h1 (fun ⟨e, _⟩ => by rw [h2] at e; exact absurd e (by decide))]
  show some o.cls = _
  rw [h2]
theorem Less.spec (L : Less K K') {C : Addr} {name : Str} {r : Option Value} {oc : Value} {od : Option Addr} {cd : ClassData} {sl : Array (Option Value)} (hC : K.lookup C = some ⟨oc, od, .cls cd, sl⟩) (h : PySem.W.specialIn K (.ref C) name = some r) : PySem.W.specialIn K' (.ref C) name = some r := by
  unfold PySem.W.specialIn at h ⊢
  obtain ⟨t, h1, h2⟩ := Option.bind_eq_some_iff.mp h
  have e1 : t = oc := by
    have h1 : (K.lookup C).map (·.cls) = some t := h1
    rw [hC] at h1; cases h1; rfl
  subst e1
  have : PySem.W.typeIn K' (.ref C) = some t := by
    show (K'.lookup C).map (·.cls) = some t
    rw [L _ _ hC fun ⟨_, _, _, e⟩ => nomatch e]; rfl
  rw [this]
  exact L.find h2
theorem Less.sub (L : Less K K') {t b : Value} {r : Bool} (h : PySem.W.subIn K t b = some r) : PySem.W.subIn K' t b = some r := by
  cases t with
  | ref C =>
    have h : (PySem.W.clsIn K C).bind _ = some r := h
    obtain ⟨cd, h1, h2⟩ := Option.bind_eq_some_iff.mp h
    show (PySem.W.clsIn K' C).bind _ = some r
    rw [L.cls h1]
    exact h2
  | _ => exact h
theorem Less.keepC (L : Less K K') {C : Addr} {oc : Value} {od : Option Addr} {cd : ClassData} {sl : Array (Option Value)} (hC : K.lookup C = some ⟨oc, od, .cls cd, sl⟩) (h : PySem.W.keepIn K (.ref C) = true) : PySem.W.keepIn K' (.ref C) = true := by
  unfold PySem.W.keepIn at h ⊢
  dsimp only at h ⊢
  rw [hC] at h
  rw [L _ _ hC fun ⟨_, _, _, e⟩ => nomatch e]
  dsimp only at h ⊢
  rw [beq_iff_eq] at h ⊢
  exact L.spec hC h
theorem Less.Meth (L : Less K K') {C : Addr} {m : Str} {x qual : Str} {st : Stmt} {f : Addr} {fd : FuncData} (F : Fun K x qual st f fd) (h : L2.Meth K C m f) : L2.Meth K' C m f := ⟨L.find h.at_, L.isFn h.fn, (L.fun F).kp⟩
theorem Less.Mk (L : Less K K') {C f : Addr} (h : L2.Mk K C f) : L2.Mk K' C f := by
  obtain ⟨m, i, fn, kp⟩ := h
  unfold PySem.W.makesIn at m
  split at m
  · rename_i oc od cd sl hC
    refine ⟨?_, L.find i, L.isFn fn, L.keepC hC kp⟩
    unfold PySem.W.makesIn
    rw [L _ _ hC fun ⟨_, _, _, e⟩ => nomatch e]
    dsimp only
    simp only [Bool.and_eq_true, beq_iff_eq] at m ⊢
    obtain ⟨⟨⟨⟨⟨⟨⟨m1, m2⟩, m3⟩, m4⟩, m5⟩, m6⟩, m7⟩, m8⟩ := m
    refine ⟨⟨⟨⟨⟨⟨⟨m1, m2⟩, m3⟩, m4⟩, m5⟩, m6⟩, L.spec hC m7⟩, ?_⟩
    unfold PySem.W.instIn at m8 ⊢
    obtain ⟨t, h1, h2⟩ := Option.bind_eq_some_iff.mp m8
    have e1 : t = oc := by
      have h1 : (K.lookup C).map (·.cls) = some t := h1
      rw [hC] at h1; cases h1; rfl
    subst e1
    have : PySem.W.typeIn K' (.ref C) = some t := by
      show (K'.lookup C).map (·.cls) = some t
      rw [L _ _ hC fun ⟨_, _, _, e⟩ => nomatch e]; rfl
    rw [this]
    exact L.sub h2
  · cases m
end
end DL

set_option Elab.async false
set_option linter.all false
set_option maxRecDepth 100000
set_option maxHeartbeats 1000000
/-! A place whose thing is known by its address while a statement runs: values that change what stands, handed to it. -/
namespace DL
open PySem PySem.Spec PyProof.Rows L2
section
variable {K : PySem.W.Frag} {G0 H0 H : Hp} {W : List (T × V)} {ts : List T} {vs : List V} {env : Env} {σ : St}
/-- what stands at a place, told otherwise -/
theorem OkS.chg {i : Nat} {P : List Stp} {u : T} (S : OkS K G0 H0 W H ts vs env σ) (h : atP env i P = some u) : ∃ v w, σ[i]? = some (some v) ∧ Ch H P v w ∧ (∃ G o, Same G H ∧ Rp K G H u w o) ∧
    ∀ u', (∀ G o, Same G H → Rp K G H u w o → Rp K G H u' w o) → OkS K G0 H0 W H ts vs (putP env i P u') σ := by
  obtain ⟨t, h1, h2⟩ := atP_eq h
  obtain ⟨G, ot, oe, s⟩ := S
  obtain ⟨v, oA, oB, e1, e2, e3, e4⟩ := s.env.take h1
  obtain ⟨w, o1, o2, f1, f2, f3, f4⟩ := e2.foc s.gh h2
  refine ⟨v, w, e1, f1, ⟨G, o1, s.gh, f2⟩, fun u' hu => ?_⟩
  rw [putP_eq h1]
  obtain ⟨o', q1, q2⟩ := f4 (G' := G) (H' := H) (Same.refl _) (fun _ _ => rfl) (hu G o1 s.gh f2)
  have hl : i < env.length := (List.getElem?_eq_some_iff.mp h1).1
  obtain ⟨o8, g1, g2⟩ := e3.put (i := i) (by simpa using hl) (fun x z => by rw [List.getElem?_set_self hl] at z; cases z) q1
  rw [List.set_set, set_back e1] at g1
  have pm : o8.Perm oe := g2.trans ((List.Perm.append_right _ (q2.trans f3.symm)).trans e4.symm)
  have pm2 : (ot ++ o8).Perm (ot ++ oe) := List.Perm.append_left _ pm
  exact ⟨G, ot, o8, s.tmp, g1, pm2.nodup_iff.mpr s.nd, fun a ha => s.fr a (pm2.mem_iff.mp ha), s.g0, s.gh, s.h0, s.nw, s.vw⟩
end
def isR : T → Bool
  | .lst _ => true
  | .dic _ => true
  | .dit _ => true
  | .obj _ _ => true
  | _ => false
theorem isR_ref {K : PySem.W.Frag} {G H : Hp} {u : T} {w : V} {o : List Addr} (h : isR u = true) (r : Rp K G H u w o) : ∃ a, w = .ref a := by
  cases u with
  | lst _ => obtain ⟨a, _, _, e, _⟩ := r; exact ⟨a, e⟩
  | dic _ => obtain ⟨a, _, _, e, _⟩ := r; exact ⟨a, e⟩
  | dit _ => obtain ⟨a, _, _, e, _⟩ := r; exact ⟨a, e⟩
  | obj _ _ => obtain ⟨a, _, _, _, _, e, _⟩ := r; exact ⟨a, e⟩
  | _ => cases h
def unbP (env : Env) (i : Nat) (P : List Stp) : Env := match atP env i P with
  | some t => putP env i P (unb t)
  | none => env
open Classical in
/-- the place by its address while F runs -/
noncomputable def sBox (i : Nat) (fo : PF) (F : SF) : SF := fun env => (fo env).bind fun r => (atP env i r.1).bind fun u => if isR u = true then
  (if h : ∃ z, ∀ a, ((F (putP env i r.1 (.box a u))).map fun s => (s.1, unbP s.2 i r.1)) = some z then some h.choose else none) else none
theorem sBox_eq {i : Nat} {fo : PF} {F : SF} {env e0 : Env} {P : List Stp} {u : T} {z : Fl × Env} (h1 : fo env = some (P, e0)) (h2 : atP env i P = some u) (h3 : isR u = true) (h : ∀ a, ((F (putP env i P (.box a u))).map fun s => (s.1, unbP s.2 i P)) = some z) : sBox i fo F env = some z := by
  unfold sBox
  rw [h1]
  show (atP env i P).bind _ = _
  rw [h2]
  show (if isR u = true then _ else _) = _
  rw [if_pos h3]
  have he : ∃ z, ∀ a, ((F (putP env i P (.box a u))).map fun s => (s.1, unbP s.2 i P)) = some z := ⟨z, h⟩
  rw [dif_pos he]
  have := he.choose_spec 0
  rw [h 0] at this
  exact this.symm
theorem unbP_ok {K : PySem.W.Frag} {G0 H0 H : Hp} {W : List (T × V)} {ts : List T} {vs : List V} {env : Env} {σ : St} (i : Nat) (P : List Stp) (S : OkS K G0 H0 W H ts vs env σ) : OkS K G0 H0 W H ts vs (unbP env i P) σ := by
  unfold unbP
  split
  · rename_i t e
    obtain ⟨v, w, _, _, _, f⟩ := S.chg e
    exact f _ fun G o _ r => r.unb
  · exact S
theorem evs_box {K : PySem.W.Frag} {s : TS} {F : SF} {sl : List Nat} (i : Nat) (fo : PF) (h : EvS K s F sl) : EvS K s (sBox i fo F) sl := by
  intro G0 H0 H ts vs env σ fl env' S g D q
  unfold sBox at g
  obtain ⟨⟨P, e0⟩, g1, g2⟩ := obind g
  obtain ⟨u, g3, g4⟩ := obind g2
  split at g4
  · rename_i hr
    split at g4
    · rename_i hz
      have hch := hz.choose_spec
      have e1 : hz.choose = (fl, env') := Option.some.inj g4
      rw [e1] at hch
      obtain ⟨v, w, _, _, ⟨G, o, _, r⟩, f⟩ := S.chg g3
      obtain ⟨a, rfl⟩ := isR_ref hr r
      have S2 := f (.box a u) fun G o _ r => ⟨rfl, r⟩
      obtain ⟨⟨fl2, e2⟩, k1, k2⟩ := omap (hch a)
      have k3 : fl2 = fl := congrArg (·.1) k2
      have k4 : unbP e2 i P = env' := congrArg (·.2) k2
      subst k3
      subst k4
      refine h _ _ _ _ _ _ _ _ _ S2 k1 _ ?_
      cases fl2 with
      | nx => exact fun H' σ' S' f' => q H' σ' (unbP_ok i P S') f'
      | bk => exact fun H' σ' S' f' => q H' σ' (unbP_ok i P S') f'
      | ct => exact fun H' σ' S' f' => q H' σ' (unbP_ok i P S') f'
      | rt t => exact fun v H' σ' S' f' => q v H' σ' (unbP_ok i P S') f'
    · cases g4
  · cases g4
theorem ds_box {X : Cx} {st : Stmt} {s : TS} {F : SF} {sl : List Nat} (i : Nat) (fo : PF) (h : DS X st s F sl) : DS X st s (sBox i fo F) sl := ⟨h.ps, evs_box i fo h.ok⟩
section
variable {X : Cx} {e o k : Expr} {te to tk : TE} {f fk : EF} {fo : PF} {i : Nat} {pos cpos apos ipos tpos : Pos}
/-- p.append(e), p known by its address -/
def sAppB (i : Nat) (fo : PF) (f : EF) : SF := fun env => (fo env).bind fun r => (atP r.2 i r.1).bind fun t0 => match t0 with
  | .box a (.lst _) => (f r.2).bind fun s => (atP s.2 i r.1).bind fun t => match t with
    | .box b (.lst us) => if b = a ∧ us.length < 16000000 then some (.nx, putP s.2 i r.1 (.box b (.lst (us ++ [s.1])))) else none
    | _ => none
  | _ => none
theorem ds_appB (ho : DP X o to i fo) (h : DX X e te f) (hb : attributeBase o "append" X.env (eval o X.env) = eval o X.env := by rfl)
    (hse : starEach [e] X.env = (false, eval e X.env) :: starEach [] X.env := by rfl)
    (hfew : ((backTo cpos (starEach [e] X.env)).all (fun x => !x.1) && (backToKw cpos (keywordEach [] X.env)).all (fun x => x.1.isSome)
      && decide ([e].length + ([] : List Keyword).length + (if ([] : List Keyword).isEmpty then 0 else 1) < 30)) = true := by rfl)
    (hline : (apos.endLine == cpos.line) = true := by rfl)
    (hs : swapsWith (.Call (.Attribute o "append" apos) [e] [] cpos) none pos.line X.env = pure false := by rfl) :
    DS X (.Expr (.Call (.Attribute o "append" apos) [e] [] cpos) pos) (tDrop (tBM X.K "list" rAppend to (tCons te tNil))) (sAppB i fo f) [] := by
  refine ⟨ps_expr (pe_bm PySem.F.plainAttrs_list PySem.F.slot_list_append PySem.F.type_list_append mt_append ho.pe (pa_cons h.pe pa_nil hse) hb hfew hline hse rfl) hs, ?_⟩
  intro G0 H0 H ts vs env σ fl env' S g D q
  obtain ⟨⟨P, e1⟩, g1, g2⟩ := obind g
  obtain ⟨t0, g3, g4⟩ := obind g2
  dsimp only at g4
  split at g4
  · rename_i a us0
    obtain ⟨⟨y, e2⟩, g5, g6⟩ := obind g4
    obtain ⟨t, g7, g8⟩ := obind g6
    dsimp only at g8
    split at g8
    · rename_i b us
      split at g8
      · rename_i hl
        obtain ⟨hba, hl⟩ := hl
        subst hba
        cases g8
        refine ho.ok _ _ _ _ _ _ _ _ _ _ S g1 _ fun v w H1 s1 S1 hv hc => ?_
        obtain ⟨tt0, k1, k2⟩ := atP_eq g3
        obtain ⟨G, o1, ⟨hw, a1, xs0, o', h1, h2, _⟩, sG⟩ := S1.at' k1 k2 hv hc
        subst hw
        cases h1
        refine ⟨.inl ⟨rfl, xs0, .inl (.inl h2)⟩, ?_⟩
        refine h.ok _ _ _ _ _ _ _ _ _ S1 g5 _ fun x H2 S2 => ?_
        obtain ⟨v2, w2, hv2, hc2, ⟨_, _, _, hw2, _⟩, _⟩ := S2.chg g7
        rw [hv] at hv2; cases hv2
        subst hw2
        obtain ⟨tt, k3, k4⟩ := atP_eq g7
        obtain ⟨G2, p1, p2, r1, r2, nd, sG2, fr, wr⟩ := OkS.wr (es := [y]) (ws := [x]) S2 rfl k3 k4 hv hc2
        obtain ⟨_, a', xs, o2, h1', h2', h3', h4'⟩ := r1
        cases h1'
        subst h4'
        have nd' : (b :: (o2 ++ p2)).Nodup := nd
        have na : b ∉ o2 ++ p2 := (List.nodup_cons.mp nd').1
        refine ⟨b, xs, x, rfl, rfl, h2', by rw [h3'.len, sizeLine_eq]; omega, ?_⟩
        have r3 := (h3'.append r2).mono (Same.refl G2) (H' := upd H2 b (.lst (xs ++ [x]))) _ (wN na)
        have S3 := wr b (.lst (xs ++ [x])) (.box b (.lst (us ++ [y]))) [] [] (b :: (o2 ++ p2)) [] [] (by simp) ⟨rfl, b, _, _, rfl, upd_same, r3, rfl⟩ ⟨rfl, rfl⟩ (by simp)
        rw [← putP_eq k3] at S3
        exact q _ _ S3 .rfl'
      · cases g8
    · cases g8
  · cases g4
/-- p[k] op= e of ints, p a dict known by its address, e one that changes what stands -/
def sAugB (hh : Int → Int → Int) (i : Nat) (fo : PF) (fk f : EF) : SF := fun env => (fo env).bind fun r => (fk r.2).bind fun s => (keyT s.1).bind fun k => (atP s.2 i r.1).bind fun t0 => match t0 with
  | .box a (.dic kvs0) => (valT kvs0 k).bind fun u => (asI u).bind fun x0 => (f s.2).bind fun y => (asI y.1).bind fun y0 => (atP y.2 i r.1).bind fun t1 => match t1 with
    | .box b (.dic kvs) => if b = a ∧ kvs.length < 16000000 then some (.nx, putP y.2 i r.1 (.box b (.dic (putT kvs k (.p (.int (hh x0 y0))))))) else none
    | _ => none
  | _ => none
theorem ds_augB {op : Operator} {hh : Int → Int → Int} (hu : X.A.units + 1 < cLine) (hop : PIp X op (ipI hh)) (ho : DP X o to i fo) (hk : DT X k tk fk) (h : DX X e te f)
    (ha : ∀ ov iv new, augStore k ov iv new = (do holding [new, ov, iv] (setItem ov iv new); release [new, ov, iv] []; pure .next) := by intros; rfl) : DS X (.AugAssign (.Subscript o k tpos) op e pos) (sDAug to tk te (ipI hh)) (sAugB hh i fo fk f) [] := by
  refine ⟨ps_daug hu ho.pe hk.pe h.pe (pip_in hop) ha, ?_⟩
  intro G0 H0 H ts vs env σ fl env' S g D q
  obtain ⟨⟨P, e1⟩, g1, g2⟩ := obind g
  obtain ⟨⟨z, e2⟩, g3, g4⟩ := obind g2
  obtain ⟨kk, g5, g6⟩ := obind g4
  obtain ⟨t0, g7, g8⟩ := obind g6
  dsimp only at g8
  split at g8
  · rename_i a kvs0
    obtain ⟨u, g9, g10⟩ := obind g8
    obtain ⟨x0, g11, g12⟩ := obind g10
    obtain ⟨⟨y, e3⟩, g13, g14⟩ := obind g12
    obtain ⟨y0, g15, g16⟩ := obind g14
    obtain ⟨t1, g17, g18⟩ := obind g16
    dsimp only at g18
    split at g18
    · rename_i b kvs
      split at g18
      · rename_i hl
        obtain ⟨hba, hl⟩ := hl
        subst hba
        cases g18
        have eu := asI_eq g11
        subst eu
        have ey : y = .p (.int y0) := asI_eq g15
        subst ey
        cases z with
        | p kd =>
          refine ho.ok _ _ _ _ _ _ _ _ _ _ S g1 _ fun v w H1 s1 S1 hv hc => ?_
          refine hk.ok _ _ _ _ _ _ _ _ _ _ S1 g3 _ fun kx H2 s2 S2 => ?_
          have ek : kx = L2.kV kk := keyD_rp (show keyD kd = some kk from g5) S2.top
          have hc2 := hc.same s2
          obtain ⟨tt0, k1, k2⟩ := atP_eq g7
          obtain ⟨G, o1, ⟨hw, a1, ws0, o', h1, h2, h3, h4⟩, sG⟩ := S2.pop.at' k1 k2 hv hc2
          subst hw
          cases h1
          obtain ⟨w0, p1, p2, c1, c2, _⟩ := h3.foc g9
          have ew0 : w0 = .int x0 := c2.1
          subst ew0
          refine ⟨b, .int x0, rfl, by rw [ek, ← c1]; exact DGet.k h2, ?_⟩
          refine h.ok _ _ _ _ _ _ _ _ _ S2.pop g13 _ fun y2 H3 S3 => ?_
          have ey2 : y2 = .int y0 := S3.top
          subst ey2
          refine ⟨x0, y0, rfl, rfl, ?_⟩
          have S3' := S3.pop
          obtain ⟨v2, w2, hv2, hc3, ⟨_, _, _, hw2, _⟩, _⟩ := S3'.chg g17
          rw [hv] at hv2; cases hv2
          subst hw2
          obtain ⟨tt, k3, k4⟩ := atP_eq g17
          obtain ⟨G2, p1', p2', r1, r2, nd, sG2, fr, wr⟩ := OkS.wr (es := []) (ws := []) S3' rfl k3 k4 hv hc3
          obtain ⟨_, a', xs, o2, h1', h2', h3', h4'⟩ := r1
          cases h1'
          subst h4'
          have e2' : p2' = [] := r2.2
          subst e2'
          have na : b ∉ o2 := fun hm => (List.nodup_cons.mp (show (b :: (o2 ++ [])).Nodup from nd)).1 (by simp [hm])
          refine ⟨_, by rw [ek]; exact DPut.k h2' (by rw [h3'.len, sizeLine_eq]; omega), ?_⟩
          have m1 := h3'.mono (Same.refl G2) (H' := upd H3 b (.dK (putK xs kk (.int (hh x0 y0))))) _ (wN na)
          obtain ⟨o5, rest, f1, f2⟩ := m1.put (t := .p (.int (hh x0 y0))) (v := .int (hh x0 y0)) (o' := []) (k := kk) ⟨rfl, rfl⟩ rfl
          have S4 := wr b (.dK (putK xs kk (.int (hh x0 y0)))) (.box b (.dic (putT kvs kk (.p (.int (hh x0 y0)))))) [] [] (b :: o5) [] rest (by simp) ⟨rfl, b, _, _, rfl, upd_same, f1, rfl⟩ ⟨rfl, rfl⟩ (by
            simp only [List.cons_append, List.append_nil] at f2 ⊢
            exact List.Perm.cons b f2)
          rw [← putP_eq k3] at S4
          exact q _ _ S4 .rfl'
        | _ => cases g5
      · cases g18
    · cases g18
  · cases g8
end
end DL

set_option Elab.async false
set_option linter.all false
set_option maxRecDepth 100000
set_option maxHeartbeats 1000000
/-! Dicts whose keys are tuples. -/
namespace DL
open PySem PySem.Spec PyProof.Rows L2
section
variable {K : PySem.W.Frag} {G0 H0 H : Hp} {W : List (T × V)} {ts : List T} {vs : List V} {env : Env} {σ : St} {t : T} {v : V}
theorem OkS.newDit {p : Addr} (S : OkS K G0 H0 W H ts vs env σ) (hp : H p = none) : OkS K G0 H0 W (upd H p (.dT [])) (.dit [] :: ts) (.ref p :: vs) env σ := by
  obtain ⟨G, ot, oe, s⟩ := S
  have gp : G p = none := Same.none s.gh hp
  have ne : ∀ a u, H a = some u → a ≠ p := fun a u e z => by rw [z, hp] at e; cases e
  have k2 : ∀ a ∈ ot, upd H p (.dT []) a = H a := fun a ha => by
    obtain ⟨u, e, _⟩ := s.tmp.there _ a ha
    exact upd_ne (ne a u e)
  have k3 : ∀ a ∈ oe, upd H p (.dT []) a = H a := fun a ha => by
    obtain ⟨u, e, _⟩ := s.env.there _ a ha
    exact upd_ne (ne a u e)
  have all : ∀ a ∈ ot ++ oe, ∃ u, H a = some u := fun a ha => by
    rcases List.mem_append.mp ha with ha | ha
    · obtain ⟨u, e, _⟩ := s.tmp.there _ a ha; exact ⟨u, e⟩
    · obtain ⟨u, e, _⟩ := s.env.there _ a ha; exact ⟨u, e⟩
  refine ⟨G, p :: ot, oe, ⟨.ref p, vs, [p], ot, rfl, ⟨p, [], [], rfl, upd_same, ⟨rfl, rfl⟩, rfl⟩, s.tmp.mono (Same.refl _) _ k2, rfl⟩, s.env.mono (Same.refl _) _ k3, ?_, fun a ha => ?_, s.g0, fun b u e => ?_, fun b u e => ?_, s.nw, fun q hq => ?_⟩
  · rw [List.cons_append]
    refine List.nodup_cons.mpr ⟨fun z => ?_, s.nd⟩
    obtain ⟨u, e⟩ := all p z
    rw [hp] at e; cases e
  · rw [List.cons_append] at ha
    rcases List.mem_cons.mp ha with e | ha
    · subst e; exact ⟨gp, Same.none s.h0 hp⟩
    · exact s.fr a ha
  · rw [upd_ne (ne b u (s.gh b u e))]; exact s.gh b u e
  · rw [upd_ne (ne b u (s.h0 b u e))]; exact s.h0 b u e
  · obtain ⟨o, h⟩ := s.vw q hq
    refine ⟨o, h.mono (Same.refl _) _ fun a ha => ?_⟩
    obtain ⟨u, e, _⟩ := h.there _ a ha
    exact upd_ne (ne a u e)
/-- pairs of keys and frozen values -/
def RpKdt (K : PySem.W.Frag) (G : Hp) (kvs : List (List Key × D)) (xs : List (List Key × V)) : Prop := RpKt K G kvs xs
def pairsTt (kvs : List (List Key × D)) : List (List Key × T) := kvs.map fun kv => (kv.1, T.p kv.2)
theorem rpTt_of {G : Hp} : ∀ {kvs : List (List Key × D)} {xs : List (List Key × V)} {o : List Addr}, RpTt K G H (pairsTt kvs) xs o → RpKt K G kvs xs ∧ o = []
  | [], _, _, h => h
  | (k, d) :: r, _, _, ⟨v, r', o1, o2, h1, h2, h3, h4⟩ => by
    obtain ⟨g1, g2⟩ := rpTt_of h3
    exact ⟨⟨v, r', h1, h2.1, g1⟩, by rw [h4, h2.2, g2]; rfl⟩
theorem rpTt_mk {G : Hp} : ∀ {kvs : List (List Key × D)} {xs : List (List Key × V)}, RpKt K G kvs xs → RpTt K G H (pairsTt kvs) xs []
  | [], _, h => ⟨h, rfl⟩
  | (k, d) :: r, _, ⟨v, r', h1, h2, h3⟩ => ⟨v, r', [], [], h1, ⟨h2, rfl⟩, rpTt_mk h3, rfl⟩
def putDt (kvs : List (List Key × D)) (k : List Key) (d : D) : List (List Key × D) := if (kvs.any fun kv => decide (kv.1 = k)) = true then kvs.map (fun kv => if kv.1 = k then (kv.1, d) else kv) else kvs ++ [(k, d)]
def valDt (kvs : List (List Key × D)) (k : List Key) : Option D := (kvs.find? fun kv => decide (kv.1 = k)).map (·.2)
theorem RpKt.any {G : Hp} (k : List Key) : ∀ {kvs : List (List Key × D)} {xs : List (List Key × V)}, RpKt K G kvs xs → (xs.any fun kv => decide (kv.1 = k)) = kvs.any fun kv => decide (kv.1 = k)
  | [], xs, h => by rw [show xs = [] from h]; rfl
  | (j, d) :: r, _, ⟨v, r', h1, h2, h3⟩ => by rw [h1, List.any_cons, List.any_cons, RpKt.any k h3]
theorem RpKt.upd {G : Hp} (k : List Key) {d : D} {v : V} (hv : RpD K G d v) : ∀ {kvs : List (List Key × D)} {xs : List (List Key × V)}, RpKt K G kvs xs → RpKt K G (kvs.map (fun kv => if kv.1 = k then (kv.1, d) else kv)) (xs.map (fun kv => if kv.1 = k then (kv.1, v) else kv))
  | [], xs, h => by rw [show xs = [] from h]; exact rfl
  | (j, e) :: r, _, ⟨w, r', h1, h2, h3⟩ => by
    subst h1
    rw [List.map_cons, List.map_cons]
    have ih := RpKt.upd k hv h3
    by_cases c : j = k
    · rw [if_pos c, if_pos c]; exact ⟨v, _, rfl, hv, ih⟩
    · rw [if_neg c, if_neg c]; exact ⟨w, _, rfl, h2, ih⟩
theorem RpKt.app {G : Hp} {k : List Key} {d : D} {v : V} (hv : RpD K G d v) : ∀ {kvs : List (List Key × D)} {xs : List (List Key × V)}, RpKt K G kvs xs → RpKt K G (kvs ++ [(k, d)]) (xs ++ [(k, v)])
  | [], xs, h => by rw [show xs = [] from h]; exact ⟨v, [], rfl, hv, rfl⟩
  | (j, e) :: r, _, ⟨w, r', h1, h2, h3⟩ => by subst h1; exact ⟨w, _, rfl, h2, RpKt.app hv h3⟩
theorem RpKt.put {G : Hp} {k : List Key} {d : D} {v : V} (hv : RpD K G d v) {kvs : List (List Key × D)} {xs : List (List Key × V)} (h : RpKt K G kvs xs) : RpKt K G (putDt kvs k d) (putK xs k v) := by
  unfold putDt putK
  rw [h.any k]
  split
  · exact h.upd k hv
  · exact h.app hv
theorem RpKt.val {G : Hp} (k : List Key) : ∀ {kvs : List (List Key × D)} {xs : List (List Key × V)}, RpKt K G kvs xs → (valDt kvs k = none → valV xs k = none) ∧ ∀ d, valDt kvs k = some d → ∃ v, valV xs k = some v ∧ RpD K G d v
  | [], xs, h => by rw [show xs = [] from h]; exact ⟨fun _ => rfl, fun d h => (nomatch h)⟩
  | (j, e) :: r, _, ⟨w, r', h1, h2, h3⟩ => by
    subst h1
    by_cases c : j = k
    · have e1 : valDt ((j, e) :: r) k = some e := by simp [valDt, List.find?_cons, c]
      rw [e1, valV_pos (by exact c)]
      exact ⟨fun h => (nomatch h), fun d h => by cases h; exact ⟨w, rfl, h2⟩⟩
    · have e1 : valDt ((j, e) :: r) k = valDt r k := by simp [valDt, List.find?_cons, c]
      rw [e1, valV_neg (by exact c)]
      exact RpKt.val k h3
theorem RpKt.length {G : Hp} : ∀ {kvs : List (List Key × D)} {xs : List (List Key × V)}, RpKt K G kvs xs → xs.length = kvs.length
  | [], xs, h => by rw [show xs = [] from h]; rfl
  | (j, e) :: r, _, ⟨w, r', h1, h2, h3⟩ => by subst h1; simp [RpKt.length h3]
/-- a dict's own pairs, where they are frozen -/
def frzT : List (List Key × T) → Option (List (List Key × D))
  | [] => some []
  | (k, .p d) :: r => (frzT r).map ((k, d) :: ·)
  | _ :: _ => none
theorem frzT_eq : ∀ {kvs : List (List Key × T)} {ds : List (List Key × D)}, frzT kvs = some ds → kvs = pairsTt ds
  | [], ds, h => by cases h; rfl
  | (k, .p d) :: r, ds, h => by
    obtain ⟨es, h1, h2⟩ := omap (show (frzT r).map ((k, d) :: ·) = some ds from h)
    subst h2
    rw [frzT_eq h1]; rfl
  | (_, .lst _) :: _, _, h => by cases h
  | (_, .tup _) :: _, _, h => by cases h
  | (_, .dit _) :: _, _, h => by cases h
theorem frzT_pairs : ∀ ds : List (List Key × D), frzT (pairsTt ds) = some ds
  | [] => rfl
  | (k, d) :: r => by show (frzT (pairsTt r)).map ((k, d) :: ·) = _; rw [frzT_pairs r]; rfl
end
def keysL : List D → Option (List Key)
  | [] => some []
  | d :: ds => (keyD d).bind fun k => (keysL ds).map (k :: ·)
def keyTT : T → Option (List Key)
  | .p (.tup ds) => keysL ds
  | _ => none
theorem keysL_rp {K : PySem.W.Frag} {G : Hp} : ∀ {ds : List D} {ks : List Key} {xs : List V}, keysL ds = some ks → RpDs K G ds xs → xs = ks.map L2.kV
  | [], ks, xs, h, r => by cases h; exact r
  | d :: ds, ks, xs, h, ⟨v, r, h1, h2, h3⟩ => by
    obtain ⟨k, g1, g2⟩ := obind (show (keyD d).bind _ = some ks from h)
    obtain ⟨ks', g3, g4⟩ := omap g2
    subst g4
    subst h1
    rw [keyD_rp g1 h2, keysL_rp g3 h3]; rfl
theorem keyL_rp {K : PySem.W.Frag} {G : Hp} {d : D} {k : List Key} {v : V} (h : keyTT (.p d) = some k) (r : RpD K G d v) : ∃ b, v = .ref b ∧ G b = some (.tup (k.map L2.kV)) := by
  cases d with
  | tup ds =>
    obtain ⟨a, vs, h1, h2, h3⟩ := r
    exact ⟨a, h1, by rw [h2, keysL_rp (show keysL ds = some k from h) h3]⟩
  | _ => cases h
/-- {} for keys that are tuples -/
def eDt : EF := fun env => some (.dit [], env)
theorem dt_dt {X : Cx} {pos : Pos} : DT X (.Dict [] [] pos) tDNewT eDt := by
  refine ⟨pe_dnewT, ?_⟩
  intro G0 H0 W H ts vs env σ t env' S g Q q
  cases g
  exact fun p hp => q _ _ (same_upd hp) (S.newDit hp)
/-! ### a dict looked at -/
def ditT : T → Option (List (List Key × D))
  | .p (.dit kvs) => some kvs
  | .dit kvs => frzT kvs
  | _ => none
theorem St0.dit {K : PySem.W.Frag} {G0 H0 G H : Hp} {W : List (T × V)} {ts : List T} {vs : List V} {env : Env} {σ : St} {ot oe : List Addr} {t : T} {v : V} {ds : List (List Key × D)} (s : St0 K G0 H0 W G H ts vs env σ ot oe) (hq : (t, v) ∈ W) (h : ditT t = some ds) :
    ∃ a xs, v = .ref a ∧ Rd H a (.dT xs) ∧ RpKt K G ds xs := by
  obtain ⟨o, r⟩ := s.vw (t, v) hq
  cases t with
  | p d =>
    cases d with
    | dit kvs =>
      cases h
      obtain ⟨⟨a, xs, e1, e2, e3⟩, _⟩ := r
      exact ⟨a, xs, e1, Same.rd s.gh e2, e3⟩
    | _ => cases h
  | dit kvs =>
    have e := frzT_eq (show frzT kvs = some ds from h)
    subst e
    obtain ⟨a, xs, o', e1, e2, e3, e4⟩ := r
    exact ⟨a, xs, e1, .inl e2, (rpTt_of e3).1⟩
  | _ => cases h
section
variable {X : Cx} {o i x : Expr} {to ti tx : TE} {fo fi fx : EF} {pos apos : Pos}
/-- d[k] -/
def eDixT (fo fi : EF) : EF := fun env => (fo env).bind fun r => (fi r.2).bind fun s => (ditT r.1).bind fun ds => (keyTT s.1).bind fun k => (valDt ds k).map fun d => (.p d, s.2)
theorem dt_dixT (hu : X.A.units + 1 < cLine) (ho : DV X o to fo) (hi : DT X i ti fi) (hs : NoSl i := by exact fun _ _ => rfl) : DT X (.Subscript o i pos) (tDGet to ti) (eDixT fo fi) := by
  refine ⟨pe_dget hu ho.pe hi.pe hs, ?_⟩
  intro G0 H0 W H ts vs env σ t env' S g Q q
  obtain ⟨⟨y, e1⟩, g1, g2⟩ := obind g
  obtain ⟨⟨z, e2⟩, g3, g4⟩ := obind g2
  obtain ⟨ds, g5, g6⟩ := obind g4
  obtain ⟨k, g7, g8⟩ := obind g6
  obtain ⟨d, g9, g10⟩ := omap g8
  cases g10
  cases z with
  | p kd =>
    refine ho.ok _ _ _ _ _ _ _ _ _ _ S g1 _ fun v H1 s1 S1 => ?_
    refine hi.ok _ _ _ _ _ _ _ _ _ _ S1 g3 _ fun w H2 s2 S2 => ?_
    obtain ⟨b, ew, eb⟩ := keyL_rp (show keyTT (.p kd) = some k from g7) S2.top
    obtain ⟨G, ot, oe, s⟩ := S2.pop
    obtain ⟨a, xs, ev, ha, rr⟩ := s.dit (t := y) (v := v) (by simp) g5
    obtain ⟨u, u1, u2⟩ := (rr.val k).2 d g9
    refine ⟨a, u, ev, by rw [ew, ← u1]; exact (.inr ⟨_, _, _, ha, rfl, eb, rfl⟩ : DGet _ _ _ _), ?_⟩
    have s' : St0 X.K G0 H0 W G H2 ts vs _ σ ot oe := ⟨s.tmp, s.env, s.nd, s.fr, s.g0, s.gh, s.h0, s.nw, fun q hq => s.vw q (List.mem_cons_of_mem _ hq)⟩
    have S3 := OkS.pushD (ds := [d]) (xs := [u]) s' ⟨u, [], rfl, u2, rfl⟩
    exact q u H2 (s1.trans s2) S3
  | _ => cases g7
/-- d.get(k, x) -/
def eDgetT (fo fi fx : EF) : EF := fun env => (fo env).bind fun r => (fi r.2).bind fun s => (fx s.2).bind fun u => (ditT r.1).bind fun ds => (keyTT s.1).bind fun k => match u.1 with
  | .p z => some (.p ((valDt ds k).getD z), u.2)
  | _ => none
theorem dt_dgetT {cpos : Pos} (hu : X.A.units + 1 < cLine) (ho : DV X o to fo) (hi : DT X i ti fi) (hx : DT X x tx fx) (m : M2 X o "get" apos i x cpos := by exact ⟨by rfl, by rfl, by rfl, by rfl⟩) : DT X (.Call (.Attribute o "get" apos) [i, x] [] cpos) (tDGet2 to ti tx) (eDgetT fo fi fx) := by
  refine ⟨pe_dget2 hu ho.pe hi.pe hx.pe m, ?_⟩
  intro G0 H0 W H ts vs env σ t env' S g Q q
  obtain ⟨⟨y, e1⟩, g1, g2⟩ := obind g
  obtain ⟨⟨z, e2⟩, g3, g4⟩ := obind g2
  obtain ⟨⟨u, e3⟩, g5, g6⟩ := obind g4
  obtain ⟨ds, g7, g8⟩ := obind g6
  obtain ⟨k, g9, g10⟩ := obind g8
  cases z with
  | p kd =>
    cases u with
    | p ud =>
      have g10 : some (T.p ((valDt ds k).getD ud), e3) = some (t, env') := g10
      cases g10
      refine ho.ok _ _ _ _ _ _ _ _ _ _ S g1 _ fun v H1 s1 S1 => ?_
      have isd : ∃ a, v = .ref a ∧ IsD H1 a := by
        obtain ⟨G, ot, oe, s⟩ := S1
        obtain ⟨a, xs, ev, ha, _⟩ := s.dit (t := y) (v := v) (by simp) g7
        exact ⟨a, ev, .inr ⟨xs, ha⟩⟩
      obtain ⟨a0, ev0, hd⟩ := isd
      refine ⟨a0, ev0, hd, ?_⟩
      refine hi.ok _ _ _ _ _ _ _ _ _ _ S1 g3 _ fun w H2 s2 S2 => ?_
      obtain ⟨b, ew, eb⟩ := keyL_rp (show keyTT (.p kd) = some k from g9) S2.top
      refine hx.ok _ _ _ _ _ _ _ _ _ _ S2.pop g5 _ fun uu H3 s3 S3 => ?_
      obtain ⟨G, ot, oe, s⟩ := S3
      obtain ⟨a, xs, ev, ha, rr⟩ := s.dit (t := y) (v := v) (by simp) g7
      rw [ev0] at ev
      cases ev
      have s' : St0 X.K G0 H0 W G H3 (.p ud :: ts) (uu :: vs) _ σ ot oe := ⟨s.tmp, s.env, s.nd, s.fr, s.g0, s.gh, s.h0, s.nw, fun q hq => s.vw q (List.mem_cons_of_mem _ hq)⟩
      refine ⟨valV xs k, by rw [ew]; exact (.inr ⟨_, _, _, ha, rfl, s3 _ _ eb, rfl⟩ : DGet _ _ _ _), ?_⟩
      cases hv : valDt ds k with
      | none =>
        rw [(rr.val k).1 hv]
        rw [hv] at q
        exact q uu H3 ((s1.trans s2).trans s3) ⟨G, ot, oe, s'⟩
      | some d =>
        obtain ⟨n, n1, n2⟩ := (rr.val k).2 d hv
        rw [n1]
        rw [hv] at q
        have S4 := OkS.pushD (ds := [d]) (xs := [n]) s' ⟨n, [], rfl, n2, rfl⟩
        have S5 : OkS X.K G0 H0 W H3 (.p ud :: .p d :: ts) (uu :: n :: vs) _ σ := OkS.mid (us := [.p d]) (ws := [n]) rfl S4
        exact q n H3 ((s1.trans s2).trans s3) S5.pop
    | _ => cases g10
  | _ => cases g9
/-- k in d -/
def eDinT (b : Bool) (fi fo : EF) : EF := fun env => (fi env).bind fun s => (fo s.2).bind fun r => (ditT r.1).bind fun ds => (keyTT s.1).bind fun k => some (.p (.bl (if b then (valDt ds k).isSome else !(valDt ds k).isSome)), r.2)
theorem ev_dinT (b : Bool) {td : TE} (htd : td = if b then tDIn ti to else tDNotIn ti to) (ho : EvV X.K to fo) (hi : EvV X.K ti fi) : EvT X.K td (eDinT b fi fo) := by
  intro G0 H0 W H ts vs env σ t env' S g Q q
  obtain ⟨⟨z, e1⟩, g1, g2⟩ := obind g
  obtain ⟨⟨y, e2⟩, g3, g4⟩ := obind g2
  obtain ⟨ds, g5, g6⟩ := obind g4
  obtain ⟨k, g7, g8⟩ := obind g6
  cases g8
  cases z with
  | p kd =>
    have main : ti σ H fun w H1 => to σ H1 fun v H2 => ∃ a o, v = .ref a ∧ DGet H2 a w o ∧ Q (.bl (if b then o.isSome else !o.isSome)) H2 := by
      refine hi _ _ _ _ _ _ _ _ _ _ S g1 _ fun w H1 s1 S1 => ?_
      refine ho _ _ _ _ _ _ _ _ _ _ S1 g3 _ fun v H2 s2 S2 => ?_
      obtain ⟨bb, ew, eb⟩ := keyL_rp (show keyTT (.p kd) = some k from g7) (S2.see (q := (.p kd, w)) (by simp))
      have ew : w = .ref bb := ew
      obtain ⟨G, ot, oe, s⟩ := S2
      obtain ⟨a, xs, ev, ha, rr⟩ := s.dit (t := y) (v := v) (by simp) g5
      have s' : St0 X.K G0 H0 W G H2 ts vs _ σ ot oe := ⟨s.tmp, s.env, s.nd, s.fr, s.g0, s.gh, s.h0, s.nw, fun q hq => s.vw q (List.mem_cons_of_mem _ (List.mem_cons_of_mem _ hq))⟩
      have same : (valV xs k).isSome = (valDt ds k).isSome := by
        cases hv : valDt ds k with
        | none => rw [(rr.val k).1 hv]; rfl
        | some d => obtain ⟨n, n1, _⟩ := (rr.val k).2 d hv; rw [n1]; rfl
      refine ⟨a, valV xs k, ev, by rw [ew]; exact (.inr ⟨_, _, _, ha, rfl, eb, rfl⟩ : DGet _ _ _ _), ?_⟩
      rw [same]
      exact q _ H2 (s1.trans s2) (OkS.scal ⟨G, ot, oe, s'⟩ fun _ => rfl)
    subst htd
    cases b with
    | true => exact main
    | false => exact main
  | _ => cases g7
theorem dt_dinT (hu : X.A.units + 1 < cLine) (hi : DV X i ti fi) (ho : DV X o to fo) (hm : behindInMarks .In o = false := by with_unfolding_all rfl) : DT X (.Compare i [.In] [o] pos) (tDIn ti to) (eDinT true fi fo) := ⟨pe_cmp (pc_din hu hi.pe ho.pe) hm, ev_dinT true rfl ho.ok hi.ok⟩
theorem dt_dninT (hu : X.A.units + 1 < cLine) (hi : DV X i ti fi) (ho : DV X o to fo) (hm : behindInMarks .NotIn o = false := by with_unfolding_all rfl) : DT X (.Compare i [.NotIn] [o] pos) (tDNotIn ti to) (eDinT false fi fo) := ⟨pe_cmp (pc_dnotin hu hi.pe ho.pe) hm, ev_dinT false rfl ho.ok hi.ok⟩
end
section
variable {X : Cx} {e o k : Expr} {te to tk : TE} {f fk : EF} {fo : PF} {i : Nat} {pos ipos : Pos}
/-- p[k] = e, k a tuple, e frozen -/
def sPutT (i : Nat) (fo : PF) (fk f : EF) : SF := fun env => (f env).bind fun r => (fo r.2).bind fun p => (fk p.2).bind fun s => (keyTT s.1).bind fun k => (atP s.2 i p.1).bind fun t => match r.1 with
  | .p d => match unb t with
    | .dit kvs => (frzT kvs).bind fun kd => if kd.length < 16000000 then some (.nx, putP s.2 i p.1 (reb t (.dit (pairsTt (putDt kd k d))))) else none
    | _ => none
  | _ => none
theorem ds_putT (hu : X.A.units + 1 < cLine) (ho : DP X o to i fo) (hk : DT X k tk fk) (h : DT X e te f) (hs : swapsWith e (some (.Subscript o k ipos)) pos.line X.env = pure false := by rfl) : DS X (.Assign [.Subscript o k ipos] e pos) (sDPut to tk te) (sPutT i fo fk f) [] := by
  refine ⟨ps_dput hu ho.pe hk.pe h.pe hs, ?_⟩
  intro G0 H0 H ts vs env σ fl env' S g D q
  obtain ⟨⟨y, e1⟩, g1, g2⟩ := obind g
  obtain ⟨⟨P, e2⟩, g3, g4⟩ := obind g2
  obtain ⟨⟨z, e3⟩, g5, g6⟩ := obind g4
  obtain ⟨kk, g7, g8⟩ := obind g6
  obtain ⟨t, g9, g10⟩ := obind g8
  cases y with
  | p d =>
    have g10 : (match unb t with
      | .dit kvs => (frzT kvs).bind fun kd => if kd.length < 16000000 then some (Fl.nx, putP e3 i P (reb t (.dit (pairsTt (putDt kd kk d))))) else none
      | _ => none) = some (fl, env') := g10
    split at g10
    · rename_i kvs hun
      obtain ⟨kd0, f1, f2⟩ := obind g10
      have ek0 := frzT_eq f1
      subst ek0
      split at f2
      · rename_i hl
        cases f2
        cases z with
        | p kd =>
          refine h.ok _ _ _ _ _ _ _ _ _ _ S g1 _ fun x H1 s1 S1 => ?_
          refine ho.ok _ _ _ _ _ _ _ _ _ _ S1 g3 _ fun v w H2 s2 S2 hv hc => ?_
          refine hk.ok _ _ _ _ _ _ _ _ _ _ S2 g5 _ fun kx H3 s3 S3 => ?_
          obtain ⟨b, ek, eb⟩ := keyL_rp (show keyTT (.p kd) = some kk from g7) S3.top
          obtain ⟨tt, k3, k4⟩ := atP_eq g9
          obtain ⟨G2, p1, p2, r1, r2, nd, sG2, fr, wr⟩ := OkS.wr (es := [.p d]) (ws := [x]) S3.pop rfl k3 k4 hv (hc.same s3)
          have ru := r1.unb
          rw [hun] at ru
          obtain ⟨a, xs, o2, h1, h2, h3, h4⟩ := ru
          subst h1; subst h4
          obtain ⟨hk3, e8⟩ := rpTt_of h3
          subst e8
          refine ⟨a, _, rfl, by rw [ek]; exact DPut.t h2 eb (by rw [hk3.length, sizeLine_eq]; omega), ?_⟩
          obtain ⟨x', r', q1, q2, q3, ⟨q4, e9⟩, q5, q6⟩ := r2
          cases q3
          obtain ⟨e7, e8⟩ := q5
          subst e8
          have ep2 : p2 = [] := by rw [q6, e9]; rfl
          subst ep2
          have S4 := wr a (.dT (putK xs kk x)) (reb t (.dit (pairsTt (putDt kd0 kk d)))) [] [] [a] [] [] (by simp) (r1.reb ⟨a, _, [], rfl, upd_same, rpTt_mk (hk3.put q4), rfl⟩) ⟨rfl, rfl⟩ (by simp)
          rw [← putP_eq k3] at S4
          exact q _ _ S4 .rfl'
        | _ => cases g7
      · cases f2
    · cases g10
  | _ => cases g10
end
end DL

set_option Elab.async false
set_option linter.all false
set_option maxRecDepth 100000
set_option maxHeartbeats 1000000
/-! What stands at a place moved out; tests that change what stands; lists or tuples walked; a name for a place. -/
namespace DL
open PySem PySem.Spec PyProof.Rows L2
/-- a thing moved out of its place: any value stands for it -/
def eMvP (i : Nat) (fo : PF) : EF := fun env => (fo env).bind fun r => (atP r.2 i r.1).map fun u => (u, putP r.2 i r.1 (.al 0))
theorem OkS.move {K : PySem.W.Frag} {G0 H0 H : Hp} {W : List (T × V)} {ts : List T} {vs : List V} {env : Env} {σ : St} {i : Nat} {P : List Stp} {u : T} {v w : V} (S : OkS K G0 H0 W H ts vs env σ) (h : atP env i P = some u) (hv : σ[i]? = some (some v)) (hc : Ch H P v w) :
    OkS K G0 H0 W H (u :: ts) (w :: vs) (putP env i P (.al 0)) σ := by
  obtain ⟨t, h1, h2⟩ := atP_eq h
  obtain ⟨G, ot, oe, s⟩ := S
  obtain ⟨v', oA, oB, e1, e2, e3, e4⟩ := s.env.take h1
  rw [hv] at e1; cases e1
  obtain ⟨w', o1, o2, f1, f2, f3, f4⟩ := e2.foc s.gh h2
  have := f1.det hc
  subst this
  rw [putP_eq h1]
  obtain ⟨o', q1, q2⟩ := f4 (G' := G) (H' := H) (u' := .al 0) (o1' := []) (Same.refl _) (fun _ _ => rfl) ⟨fun z => absurd rfl z, rfl⟩
  have hl : i < env.length := (List.getElem?_eq_some_iff.mp h1).1
  obtain ⟨o8, g1, g2⟩ := e3.put (i := i) (by simpa using hl) (fun x z => by rw [List.getElem?_set_self hl] at z; cases z) q1
  rw [List.set_set, set_back hv] at g1
  have pm : o8.Perm (o2 ++ oB) := g2.trans (List.Perm.append_right _ q2)
  have pm2 : ((o1 ++ ot) ++ o8).Perm (ot ++ oe) := by
    refine List.Perm.trans (List.Perm.append_left _ pm) ?_
    refine List.Perm.trans ?_ (List.Perm.append_left ot (e4.trans (List.Perm.append_right _ f3))).symm
    exact List.perm_iff_count.mpr fun x => by simp only [List.count_append]; omega
  exact ⟨G, o1 ++ ot, o8, ⟨w', vs, o1, ot, rfl, f2, s.tmp, rfl⟩, g1, pm2.nodup_iff.mpr s.nd, fun a ha => s.fr a (pm2.mem_iff.mp ha), s.g0, s.gh, s.h0, s.nw, s.vw⟩
theorem dt_mv {X : Cx} {o : Expr} {to : TE} {i : Nat} {fo : PF} (ho : DP X o to i fo) : DT X o to (eMvP i fo) := by
  refine ⟨ho.pe, ?_⟩
  intro G0 H0 W H ts vs env σ t env' S g Q q
  obtain ⟨⟨P, e1⟩, g1, g2⟩ := obind g
  obtain ⟨u, g3, g4⟩ := omap g2
  cases g4
  exact ho.ok _ _ _ _ _ _ _ _ _ _ S g1 _ fun v w H1 s1 S1 hv hc => q w H1 s1 (S1.move g3 hv hc)
/-- what is known of a class's attribute -/
theorem att_mk {K : PySem.W.Frag} {n f : Str} {C : Addr} (cn : ClsN K n C) (cl : Cls K C) (na : NoAttr K C f) : Att K n f := fun C' h => by
  have : C = C' := by
    have := (show PySem.W.nsIn K mainGlobals n = _ from cn).symm.trans h
    cases this; rfl
  subst this
  exact ⟨cl, na⟩
section
variable {X : Cx} {e : Expr} {te : TE} {f : EF} {a b : List Stmt} {t u : TS} {F1 F2 : SF} {sl sl2 : List Nat} {pos : Pos}
/-- if f: .., f one that changes what stands -/
theorem ds_ifX (h : DX X e te f) (h1 : DSs X a t F1 sl) (h2 : DSs X b u F2 sl2) (he : ∀ whole, isTrue e X.env whole = (do let v ← whole; standAt e.pos; holding [v] (truthy v)) := by intro _; rfl) : DS X (.If e a b pos) (tIfS (tTest te) t u) (sIf (cT f) F1 F2) (sl ++ sl2) := by
  refine ⟨ps_if (pt_val h.pe he) h1.ps h2.ps, ?_⟩
  intro G0 H0 H ts vs env σ fl env' S g D q
  obtain ⟨⟨b, e1⟩, g1, g2⟩ := obind g
  obtain ⟨⟨x, e2⟩, g3, g4⟩ := obind g1
  have hx : x = .p (.bl b) ∧ e2 = e1 := by
    cases x with
    | p d => cases d with
      | bl c => cases g4; exact ⟨rfl, rfl⟩
      | _ => cases g4
    | _ => cases g4
  obtain ⟨rfl, rfl⟩ := hx
  refine h.ok _ _ _ _ _ _ _ _ _ S g3 _ fun v H' S1 => ?_
  have ev : v = .bl b := S1.top
  have S' := S1.pop
  refine ⟨b, ev, ?_⟩
  cases b with
  | true =>
    rw [if_pos rfl]
    refine h1.ok _ _ _ _ _ _ _ _ _ S' g2 D ?_
    cases fl with
    | nx => exact fun H2 σ2 S2 f2 => q H2 σ2 S2 f2.l
    | bk => exact fun H2 σ2 S2 f2 => q H2 σ2 S2 f2.l
    | ct => exact fun H2 σ2 S2 f2 => q H2 σ2 S2 f2.l
    | rt v => exact fun w H2 σ2 S2 f2 => q w H2 σ2 S2 f2.l
  | false =>
    rw [if_neg Bool.false_ne_true]
    refine h2.ok _ _ _ _ _ _ _ _ _ S' g2 D ?_
    cases fl with
    | nx => exact fun H2 σ2 S2 f2 => q H2 σ2 S2 f2.r
    | bk => exact fun H2 σ2 S2 f2 => q H2 σ2 S2 f2.r
    | ct => exact fun H2 σ2 S2 f2 => q H2 σ2 S2 f2.r
    | rt v => exact fun w H2 σ2 S2 f2 => q w H2 σ2 S2 f2.r
/-- a list or a tuple walked -/
def iSq (f : EF) : IF := fun env => (f env).bind fun r => match r.1 with
  | .p (.lst ds) => some (ds, r.2)
  | .p (.tup ds) => some (ds, r.2)
  | _ => none
def tSq (K : PySem.W.Frag) (te : TE) : TI := fun σ H R => te σ H fun x H1 => ∃ a, x = .ref a ∧ (((∃ xs, SqL K H1 a xs) ∧ R (Itl K a) H1) ∨ ((∃ xs, SqT K H1 a xs) ∧ R (Itt K a) H1))
theorem pi_sq {tg : Expr} (hl : PE X e te) : PI X tg e (tSq X.K te) := by
  refine ⟨fun pins s σ H R I h => ?_⟩
  refine thn (hl.run pins s σ H _ I h) fun v s1 ⟨x, H1, I1, r1, q1⟩ => ?_
  obtain ⟨a, e, hq⟩ := q1
  subst e
  cases r1
  rcases hq with ⟨⟨xs, hq⟩, q⟩ | ⟨⟨xs, hq⟩, q⟩
  · obtain ⟨its, rv, p, hz⟩ := I1.list hq
    refine wpAny_pyIter_list p.isList ?_
    refine ⟨s1.heap.objs.size, [s1.heap.objs.size], _, _, H1, rfl, I1.kept (t' := s1.toks) fun b o e => Heap.get?_push_of_some _ e, turn_list a _, ⟨_, Heap.get?_push_size _ rfl, rfl, rfl⟩, fun b hb => ?_, q⟩
    have e : b = s1.heap.objs.size := by simpa using hb
    subst e
    exact I1.fpOk (Nat.le_refl _) (I1.hok.fresh (Nat.le_refl _))
  · obtain ⟨its, rv, p, hz⟩ := I1.tuple hq
    refine wpAny_pyIter_tuple (show s1.heap.IsTuple a its.toArray from p) ?_
    refine ⟨s1.heap.objs.size, [s1.heap.objs.size], _, _, H1, rfl, I1.kept (t' := s1.toks) fun b o e => Heap.get?_push_of_some _ e, turn_tuple a _, ⟨_, Heap.get?_push_size _ rfl, rfl, rfl⟩, fun b hb => ?_, q⟩
    have e : b = s1.heap.objs.size := by simpa using hb
    subst e
    exact I1.fpOk (Nat.le_refl _) (I1.hok.fresh (Nat.le_refl _))
theorem di_seq {tg : Expr} (h : DT X e te f) : DI X tg e (tSq X.K te) (iSq f) := by
  refine ⟨pi_sq h.pe, ?_⟩
  intro G0 H0 W H ts vs env σ ds env' S g R r
  obtain ⟨⟨t, e1⟩, g1, g2⟩ := obind g
  cases t with
  | p d =>
    cases d with
    | lst ds' =>
      cases g2
      refine h.ok _ _ _ _ _ _ _ _ _ _ S g1 _ fun v H1 s1 S1 => ?_
      obtain ⟨G1, gst, sG, ⟨a, xs, e1, e2, e3⟩, S2⟩ := S1.fixTop
      exact ⟨a, e1, .inl ⟨⟨xs, sG.seq (.inl e2)⟩, r _ _ G1 s1 gst (itOk_l (.inl e2) e3) S2⟩⟩
    | tup ds' =>
      cases g2
      refine h.ok _ _ _ _ _ _ _ _ _ _ S g1 _ fun v H1 s1 S1 => ?_
      obtain ⟨G1, gst, sG, ⟨a, xs, e1, e2, e3⟩, S2⟩ := S1.fixTop
      exact ⟨a, e1, .inr ⟨⟨xs, tup_seq sG e2⟩, r _ _ G1 s1 gst (itOk_t (tup_sq e2) e3) S2⟩⟩
    | _ => cases g2
  | _ => cases g2
end
/-! ### calls that look at their arguments and tell what is told by value -/
mutual
def cleanD : D → Bool
  | .non => true
  | .bl _ => true
  | .int _ => true
  | .str _ => true
  | .tup ds => cleanDs ds
  | _ => false
def cleanDs : List D → Bool
  | [] => true
  | d :: ds => cleanD d && cleanDs ds
end
mutual
def cleanV : T → Bool
  | .p d => cleanD d
  | .lst ts => cleanVs ts
  | .tup ts => cleanVs ts
  | _ => false
def cleanVs : List T → Bool
  | [] => true
  | t :: ts => cleanV t && cleanVs ts
end
section
variable {K : PySem.W.Frag} {G G' H : Hp}
mutual
theorem RpD.cleanV (e : ∀ a xs, G a = some (.tup xs) → G' a = some (.tup xs)) : ∀ (d : D) {v : V}, cleanD d = true → RpD K G d v → RpD K G' d v
  | .non, _, _, h => h
  | .bl _, _, _, h => h
  | .int _, _, _, h => h
  | .str _, _, _, h => h
  | .tup ds, _, c, ⟨a, vs, h1, h2, h3⟩ => ⟨a, vs, h1, e _ _ h2, RpDs.cleanV e ds (by unfold cleanD at c; exact c) h3⟩
  | .lst _, _, c, _ => by unfold cleanD at c; cases c
  | .dic _, _, c, _ => by unfold cleanD at c; cases c
  | .dit _, _, c, _ => by unfold cleanD at c; cases c
  | .obj _ _, _, c, _ => by unfold cleanD at c; cases c
  | .al _, _, c, _ => by unfold cleanD at c; cases c
theorem RpDs.cleanV (e : ∀ a xs, G a = some (.tup xs) → G' a = some (.tup xs)) : ∀ (ds : List D) {vs : List V}, cleanDs ds = true → RpDs K G ds vs → RpDs K G' ds vs
  | [], _, _, h => h
  | d :: ds, _, c, ⟨v, r, h1, h2, h3⟩ => by
    unfold cleanDs at c
    rw [Bool.and_eq_true] at c
    exact ⟨v, r, h1, RpD.cleanV e d c.1 h2, RpDs.cleanV e ds c.2 h3⟩
end
mutual
theorem Rp.cleanV (e : ∀ a xs, G a = some (.tup xs) → G' a = some (.tup xs)) : ∀ (t : T) {v : V} {o : List Addr}, DL.cleanV t = true → Rp K G H t v o → Rp K G' H t v o
  | .p d, _, _, c, ⟨h1, h2⟩ => ⟨RpD.cleanV e d (by unfold DL.cleanV at c; exact c) h1, h2⟩
  | .lst ts, _, _, c, ⟨a, vs, o', h1, h2, h3, h4⟩ => ⟨a, vs, o', h1, h2, RpTs.cleanV e ts (by unfold DL.cleanV at c; exact c) h3, h4⟩
  | .tup ts, _, _, c, ⟨a, vs, h1, h2, h3⟩ => ⟨a, vs, h1, e _ _ h2, RpTs.cleanV e ts (by unfold DL.cleanV at c; exact c) h3⟩
  | .dic _, _, _, c, _ => by unfold DL.cleanV at c; cases c
  | .dit _, _, _, c, _ => by unfold DL.cleanV at c; cases c
  | .obj _ _, _, _, c, _ => by unfold DL.cleanV at c; cases c
  | .box _ _, _, _, c, _ => by unfold DL.cleanV at c; cases c
  | .al _, _, _, c, _ => by unfold DL.cleanV at c; cases c
theorem RpTs.cleanV (e : ∀ a xs, G a = some (.tup xs) → G' a = some (.tup xs)) : ∀ (ts : List T) {vs : List V} {o : List Addr}, cleanVs ts = true → RpTs K G H ts vs o → RpTs K G' H ts vs o
  | [], _, _, _, h => h
  | t :: ts, _, _, c, ⟨v, r, o1, o2, h1, h2, h3, h4⟩ => by
    unfold cleanVs at c
    rw [Bool.and_eq_true] at c
    exact ⟨v, r, o1, o2, h1, Rp.cleanV e t c.1 h2, RpTs.cleanV e ts c.2 h3, h4⟩
end
end
def eCallC (φ : List D → Option T) (fa : AF) : EF := fun env => (fa env).bind fun r => (φ (T.toDs r.1)).bind fun t => if cleanV t = true then some (t, r.2) else none
def plusT (G H : Hp) : Hp := fun a => match H a with
  | some (.tup xs) => some (.tup xs)
  | _ => G a
theorem plusT_tup {G H : Hp} {a : Addr} {xs : List V} (h : H a = some (.tup xs)) : plusT G H a = some (.tup xs) := by unfold plusT; rw [h]
theorem plusT_cases {G H : Hp} {a : Addr} {u : HO} (h : plusT G H a = some u) : G a = some u ∨ ∃ xs, u = .tup xs ∧ H a = some (.tup xs) := by
  unfold plusT at h
  split at h
  · rename_i xs e; cases h; exact .inr ⟨xs, rfl, e⟩
  · exact .inl h
theorem plusT_ne {G H : Hp} {a : Addr} (h : ∀ xs, H a ≠ some (.tup xs)) : plusT G H a = G a := by
  unfold plusT
  split
  · rename_i xs e; exact absurd e (h xs)
  · rfl
theorem ev_callC {K : PySem.W.Frag} {n : Nat} {φ : List D → Option T} {ta : TA} {fa : AF} (hφ : ∀ ds t, φ ds = some t → ds.length = n) (ha : EvVs K ta fa) : EvT K (tCall (spD n φ K) [] E0 ta) (eCallC φ fa) := by
  intro G0 H0 W H ts vs env σ t env' S g Q q
  obtain ⟨⟨us, e1⟩, g1, g2⟩ := obind g
  obtain ⟨t', g3, g4⟩ := obind g2
  by_cases hc : cleanV t' = true
  · rw [if_pos hc] at g4
    cases g4
    refine ha _ _ _ _ _ _ _ _ _ _ S g1 _ fun ws H1 s1 hl S1 => ?_
    have hds := rpDs_views hl fun q hq => S1.see (List.mem_append_left _ hq)
    have S2 := S1.views (W' := W) fun q hq => List.mem_append_right _ hq
    obtain ⟨G, ot, oe, s⟩ := S2
    refine ⟨T.toDs us, t, H1, hφ _ _ g3, g3, Same.refl _, by rw [List.append_nil]; exact hds, fun v G' H' o h1 h2 h3 h4 h5 h6 h7 => ?_⟩
    have gg : Same G (plusT G H') := fun a u e => by
      have e2 : H' a = some u := h3 a u (s.gh a u e)
      by_cases c : ∃ xs, u = .tup xs
      · obtain ⟨xs, rfl⟩ := c; exact plusT_tup e2
      · rw [plusT_ne (fun xs z => by rw [e2] at z; cases z; exact c ⟨xs, rfl⟩)]; exact e
    have r4 := Rp.cleanV (G' := plusT G H') (fun a xs e => plusT_tup (h2 a _ e)) t hc h4
    refine q v H' (s1.trans h3) (OkS.called s gg (fun a u e0 => ?_) h3 r4 h5 (fun a ha => ⟨?_, (h6 a ha).2⟩) fun a u e => ?_)
    · rcases plusT_cases e0 with e | ⟨xs, rfl, e⟩
      · exact h3 a u (s.gh a u e)
      · exact e
    · obtain ⟨u, e, ne⟩ := h4.there _ a ha
      rw [plusT_ne (fun xs z => by rw [e] at z; cases z; exact ne xs rfl)]
      exact Same.none s.gh (h6 a ha).2
    · rcases plusT_cases e with e | ⟨xs, rfl, e⟩
      · exact .inl (by rw [e]; simp)
      · exact .inr (.inr ⟨xs, rfl⟩)
  · rw [if_neg hc] at g4; cases g4
theorem dt_callC {X : Cx} {k : Nat} {f : Addr} {fd : FuncData} {ps : List Str} {n : Nat} {φ : List D → Option T} {x : Str} {p pos : Pos} {e : Expr} {es : List Expr} {ta : TA} {fa : AF}
    (hφ : ∀ ds t, φ ds = some t → ds.length = n) (F : FnOk X.prog X.w X.K X.mg X.base CX0 k f fd ps (spD n φ X.K)) (hr : Room k X.A) (hg : Gl X x) (hm : X.mg x = some (.ref f)) (hk : PySem.W.keepIn X.K (.ref f) = true) (hb : Binds X.K fd ps [])
    (ha : DVs X (e :: es) ta fa) (hdb : (x == ("__debug__" : Str)) = false := by decide) (he : starEach (e :: es) X.env = (false, eval e X.env) :: starEach es X.env := by rfl) (hpl : (backTo pos (starEach es X.env)).any (·.1) = false := by rfl) :
    DT X (.Call (.Name x p) (e :: es) [] pos) (tCall (spD n φ X.K) [] E0 ta) (eCallC φ fa) := ⟨pe_call F hr hg hm hk hb .nil pass0 ha.pa hdb he hpl, ev_callC hφ ha.ok⟩
section
variable {X : Cx} {i o : Expr} {ti to : TE} {fi fo : EF} {pos : Pos}
theorem dc_din (hu : X.A.units + 1 < cLine) (hi : DV X i ti fi) (ho : DV X o to fo) (hm : behindInMarks .In o = false := by with_unfolding_all rfl) : DC X (.Compare i [.In] [o] pos) (tTest (tDIn ti to)) (cT (eDin true fi fo)) := ⟨pt_cmp (pc_din hu hi.pe ho.pe) hm, (ev_din true rfl ho.ok hi.ok).test⟩
theorem dc_dnin (hu : X.A.units + 1 < cLine) (hi : DV X i ti fi) (ho : DV X o to fo) (hm : behindInMarks .NotIn o = false := by with_unfolding_all rfl) : DC X (.Compare i [.NotIn] [o] pos) (tTest (tDNotIn ti to)) (cT (eDin false fi fo)) := ⟨pt_cmp (pc_dnotin hu hi.pe ho.pe) hm, (ev_din false rfl ho.ok hi.ok).test⟩
theorem dc_dinT (hu : X.A.units + 1 < cLine) (hi : DV X i ti fi) (ho : DV X o to fo) (hm : behindInMarks .In o = false := by with_unfolding_all rfl) : DC X (.Compare i [.In] [o] pos) (tTest (tDIn ti to)) (cT (eDinT true fi fo)) := ⟨pt_cmp (pc_din hu hi.pe ho.pe) hm, (ev_dinT true rfl ho.ok hi.ok).test⟩
theorem dc_dninT (hu : X.A.units + 1 < cLine) (hi : DV X i ti fi) (ho : DV X o to fo) (hm : behindInMarks .NotIn o = false := by with_unfolding_all rfl) : DC X (.Compare i [.NotIn] [o] pos) (tTest (tDNotIn ti to)) (cT (eDinT false fi fo)) := ⟨pt_cmp (pc_dnotin hu hi.pe ho.pe) hm, (ev_dinT false rfl ho.ok hi.ok).test⟩
end
end DL

set_option Elab.async false
set_option linter.all false
set_option maxRecDepth 100000
set_option maxHeartbeats 1000000
/-! A name for what stands at a place, through the rest of a block. -/
namespace DL
open PySem PySem.Spec PyProof.Rows L2
section
variable {K : PySem.W.Frag} {G0 H0 H : Hp} {W : List (T × V)} {ts : List T} {vs : List V} {env : Env} {σ : St} {i : Nat} {P : List Stp} {u : T} {v w : V}
theorem OkS.moveW (S : OkS K G0 H0 W H ts vs env σ) (h : atP env i P = some u) (hv : σ[i]? = some (some v)) (hc : Ch H P v w) (u0 : T) (h0 : ∀ G, Rp K G H u0 w []) :
    OkS K G0 H0 W H (u :: ts) (w :: vs) (putP env i P u0) σ := by
  obtain ⟨t, h1, h2⟩ := atP_eq h
  obtain ⟨G, ot, oe, s⟩ := S
  obtain ⟨v', oA, oB, e1, e2, e3, e4⟩ := s.env.take h1
  rw [hv] at e1; cases e1
  obtain ⟨w', o1, o2, f1, f2, f3, f4⟩ := e2.foc s.gh h2
  have := f1.det hc
  subst this
  rw [putP_eq h1]
  obtain ⟨o', q1, q2⟩ := f4 (G' := G) (H' := H) (u' := u0) (o1' := []) (Same.refl _) (fun _ _ => rfl) (h0 G)
  have hl : i < env.length := (List.getElem?_eq_some_iff.mp h1).1
  obtain ⟨o8, g1, g2⟩ := e3.put (i := i) (by simpa using hl) (fun x z => by rw [List.getElem?_set_self hl] at z; cases z) q1
  rw [List.set_set, set_back hv] at g1
  have pm : o8.Perm (o2 ++ oB) := g2.trans (List.Perm.append_right _ q2)
  have pm2 : ((o1 ++ ot) ++ o8).Perm (ot ++ oe) := by
    refine List.Perm.trans (List.Perm.append_left _ pm) ?_
    refine List.Perm.trans ?_ (List.Perm.append_left ot (e4.trans (List.Perm.append_right _ f3))).symm
    exact List.perm_iff_count.mpr fun x => by simp only [List.count_append]; omega
  exact ⟨G, o1 ++ ot, o8, ⟨w', vs, o1, ot, rfl, f2, s.tmp, rfl⟩, g1, pm2.nodup_iff.mpr s.nd, fun a ha => s.fr a (pm2.mem_iff.mp ha), s.g0, s.gh, s.h0, s.nw, s.vw⟩
/-- the value on top laid at a place where it stands already -/
theorem OkS.fill {u' : T} (S : OkS K G0 H0 [] H (u' :: ts) (w :: vs) env σ) (h : atP env i P = some u) (hv : σ[i]? = some (some v)) (hc : Ch H P v w) : OkS K G0 H0 [] H ts vs (putP env i P u') σ := by
  obtain ⟨t, h1, h2⟩ := atP_eq h
  obtain ⟨G, ot, oe, s⟩ := S
  obtain ⟨w0, r0, oa, ob, k1, k2, k3, k4⟩ := s.tmp
  cases k1
  subst k4
  obtain ⟨v', oA, oB, e1, e2, e3, e4⟩ := s.env.take h1
  rw [hv] at e1; cases e1
  obtain ⟨w', o1, o2, f1, f2, f3, f4⟩ := e2.foc s.gh h2
  have := f1.det hc
  subst this
  rw [putP_eq h1]
  obtain ⟨o', q1, q2⟩ := f4 (G' := G) (H' := H) (Same.refl _) (fun _ _ => rfl) k2
  have hl : i < env.length := (List.getElem?_eq_some_iff.mp h1).1
  obtain ⟨o8, g1, g2⟩ := e3.put (i := i) (by simpa using hl) (fun x z => by rw [List.getElem?_set_self hl] at z; cases z) q1
  rw [List.set_set, set_back hv] at g1
  have pm : o8.Perm (oa ++ (o2 ++ oB)) := g2.trans (by rw [← List.append_assoc]; exact List.Perm.append_right _ q2)
  have pm2 : ((ob ++ o8) ++ o1).Perm ((oa ++ ob) ++ oe) := by
    refine List.Perm.trans (List.Perm.append_right _ (List.Perm.append_left _ pm)) ?_
    refine List.Perm.trans ?_ (List.Perm.append_left _ (e4.trans (List.Perm.append_right _ f3))).symm
    exact List.perm_iff_count.mpr fun x => by simp only [List.count_append]; omega
  have nd2 := pm2.nodup_iff.mpr s.nd
  exact ⟨G, ob, o8, k3, g1, (List.nodup_append.mp nd2).1, fun a ha => s.fr a (pm2.mem_iff.mp (List.mem_append_left _ ha)), s.g0, s.gh, s.h0, s.nw, fun q hq => by cases hq⟩
end
/-- the thing back at its place -/
def backP (i j : Nat) (P : List Stp) (a : Addr) (s : Fl × Env) : Option (Fl × Env) := match s.2[j]? with
  | some (some u') => (match atP (s.2.set j none) i P with
    | some (.al b) => if b = a + 1 then some (s.1, putP (s.2.set j none) i P u') else none
    | _ => none)
  | _ => none
open Classical in
noncomputable def sAl (j i : Nat) (fo : PF) (F : SF) : SF := fun env => (fo env).bind fun r => (atP r.2 i r.1).bind fun u => if isR u = true ∧ j < r.2.length then
  (if h : ∃ z, ∀ a : Addr, ((F ((putP r.2 i r.1 (.al (a + 1))).set j (some u))).bind (backP i j r.1 a)) = some z then some h.choose else none) else none
theorem sAl_eq {j i : Nat} {fo : PF} {F : SF} {env e1 : Env} {P : List Stp} {u : T} {z : Fl × Env} (h1 : fo env = some (P, e1)) (h2 : atP e1 i P = some u) (h3 : isR u = true ∧ j < e1.length) (h : ∀ a : Addr, ((F ((putP e1 i P (.al (a + 1))).set j (some u))).bind (backP i j P a)) = some z) : sAl j i fo F env = some z := by
  unfold sAl
  rw [h1]
  show (atP e1 i P).bind _ = _
  rw [h2]
  show (if isR u = true ∧ j < e1.length then _ else _) = _
  rw [if_pos h3]
  have he : ∃ z, ∀ a : Addr, ((F ((putP e1 i P (.al (a + 1))).set j (some u))).bind (backP i j P a)) = some z := ⟨z, h⟩
  rw [dif_pos he]
  have := he.choose_spec 0
  rw [h 0] at this
  exact this.symm
theorem backP_ok {K : PySem.W.Frag} {G0 H0 H : Hp} {ts : List T} {vs : List V} {e2 env' : Env} {σ : St} {i j : Nat} {P : List Stp} {a : Addr} {fl fl' : Fl} (h : backP i j P a (fl, e2) = some (fl', env')) (S : OkS K G0 H0 [] H ts vs e2 σ) (hj : σ[j]? = some (some (.ref a))) : fl' = fl ∧ OkS K G0 H0 [] H ts vs env' σ := by
  unfold backP at h
  dsimp only at h
  split at h
  · rename_i u' e
    split at h
    · rename_i b eb
      split at h
      · rename_i hb
        subst hb
        cases h
        obtain ⟨v, hv, S1⟩ := S.get e
        rw [hj] at hv; cases hv
        obtain ⟨v2, w2, hv2, hc2, ⟨_, _, _, hw, _⟩, _⟩ := S1.chg eb
        have hw : w2 = .ref a := hw (Nat.succ_ne_zero _)
        subst hw
        exact ⟨rfl, S1.fill eb hv2 hc2⟩
      · cases h
    · cases h
  · cases h
theorem dss_al {X : Cx} {o : Expr} {to : TE} {fo : PF} {i j : Nat} {y : Str} {pos pos' : Pos} {rest : List Stmt} {tr : TS} {F : SF} {sl : List Nat} (hN : X.N.Nodup) (hi : X.N[j]? = some y) (hx : Loc X.env.scope y) (ho : DP X o to i fo) (hr : DSs X rest tr F sl) (hj : j ∉ sl)
    (hs : swapsWith o (some (.Name y pos')) pos.line X.env = pure false := by rfl) (hf : X.fn y = true ∨ X.env.scope.names.lookup y = some .local := by first | exact .inl rfl | exact .inr rfl | assumption) :
    DSs X (.Assign [.Name y pos'] o pos :: rest) (tSeq (tAsg to (gName j)) tr) (sAl j i fo F) ([j] ++ sl) := by
  refine ⟨pss_cons (ps_set hN hi hx ho.pe hs hf) hr.ps, ?_⟩
  intro G0 H0 H ts vs env σ fl env' S g D q
  unfold sAl at g
  obtain ⟨⟨P, e1⟩, g1, g2⟩ := obind g
  obtain ⟨u, g3, g4⟩ := obind g2
  split at g4
  · rename_i hru
    split at g4
    · rename_i hz
      have hch := hz.choose_spec
      have e0 : hz.choose = (fl, env') := Option.some.inj g4
      rw [e0] at hch
      refine ho.ok _ _ _ _ _ _ _ _ _ _ S g1 _ fun v w H1 s1 S1 hv hc => ?_
      obtain ⟨v2, w2, hv2, hc2, ⟨G, oo, _, r⟩, _⟩ := S1.chg g3
      rw [hv] at hv2; cases hv2
      have ew := hc.det hc2
      subst ew
      obtain ⟨a, rfl⟩ := isR_ref hru.1 r
      have S2 := S1.moveW g3 hv hc (.al (a + 1)) (fun G => ⟨fun _ => rfl, rfl⟩)
      have hlen : j < (putP e1 i P (.al (a + 1))).length := by
        obtain ⟨t, k1, _⟩ := atP_eq g3
        rw [putP_eq k1, List.length_set]; exact hru.2
      have S3 := S2.put (i := j) hlen
      have hl2 : j < e1.length := hru.2
      have hσl : j < σ.length := by rw [S1.len]; exact hl2
      obtain ⟨⟨fl2, e2⟩, k1, k2⟩ := obind (hch a)
      refine hr.ok _ _ _ _ _ _ _ _ _ S3 k1 _ ?_
      have hσj : ∀ σ', Dif sl (σ.set j (some (V.ref a))) σ' → σ'[j]? = some (some (V.ref a)) := fun σ' df => by
        rw [df.2 j hj, List.getElem?_set_self hσl]
      have dd : ∀ σ', Dif sl (σ.set j (some (V.ref a))) σ' → Dif ([j] ++ sl) σ σ' := fun σ' df => Dif.tr Dif.set df
      cases fl2 with
      | nx => intro H' σ' S' df; obtain ⟨e9, S4⟩ := backP_ok k2 S' (hσj σ' df); subst e9; exact q H' σ' S4 (dd σ' df)
      | bk => intro H' σ' S' df; obtain ⟨e9, S4⟩ := backP_ok k2 S' (hσj σ' df); subst e9; exact q H' σ' S4 (dd σ' df)
      | ct => intro H' σ' S' df; obtain ⟨e9, S4⟩ := backP_ok k2 S' (hσj σ' df); subst e9; exact q H' σ' S4 (dd σ' df)
      | rt t => intro v' H' σ' S' df; obtain ⟨e9, S4⟩ := backP_ok k2 S' (hσj σ' df); subst e9; exact q v' H' σ' S4 (dd σ' df)
    · cases g4
  · cases g4
end DL

set_option Elab.async false
set_option linter.all false
set_option maxRecDepth 100000
set_option maxHeartbeats 1000000
/-! A walk over a holder's own list whose items are changed while the list is kept. -/
namespace DL
open PySem PySem.Spec PyProof.Rows L2
def isRT : T → Bool
  | .tup _ => true
  | t => isR t
theorem isRT_ref {K : PySem.W.Frag} {G H : Hp} {u : T} {w : V} {o : List Addr} (h : isRT u = true) (r : Rp K G H u w o) : ∃ a, w = .ref a := by
  cases u with
  | tup _ => obtain ⟨a, _, e, _⟩ := r; exact ⟨a, e⟩
  | lst _ => exact isR_ref rfl r
  | dic _ => exact isR_ref rfl r
  | dit _ => exact isR_ref rfl r
  | obj _ _ => exact isR_ref rfl r
  | _ => cases h
section
variable {K : PySem.W.Frag} {G0 H0 H : Hp} {ts pre post : List T} {vs : List V} {env : Env} {σ : St} {t : T} {v : V}
theorem OkS.hole (S : OkS K G0 H0 [] H (.lst (pre ++ t :: post) :: ts) (v :: vs) env σ) (ht : isRT t = true) :
    ∃ a xs b, v = .ref a ∧ H a = some (.lst xs) ∧ xs.length = (pre ++ t :: post).length ∧ xs[pre.length]? = some (.ref b) ∧ OkS K G0 H0 [] H (t :: .lst (pre ++ .al (b + 1) :: post) :: ts) (.ref b :: v :: vs) env σ := by
  obtain ⟨G, ot, oe, s⟩ := S
  obtain ⟨u, r, o1, o2, h1, ⟨a, xs, o', k1, k2, k3, k4⟩, h3, h4⟩ := s.tmp
  cases h1
  subst k1; subst k4; subst h4
  obtain ⟨w, p1, p2, f1, f2, f3, f4⟩ := k3.foc (n := pre.length) (u := t) (by simp)
  obtain ⟨b, rfl⟩ := isRT_ref ht f2
  obtain ⟨q, g1, g2⟩ := f4 (G' := G) (H' := H) (u' := .al (b + 1)) (o1' := []) (Same.refl _) (fun _ _ => rfl) ⟨fun _ => rfl, rfl⟩
  have e1 : (pre ++ t :: post).set pre.length (.al (b + 1)) = pre ++ .al (b + 1) :: post := by rw [List.set_append_right _ _ (Nat.le_refl _)]; simp
  rw [e1] at g1
  have pm : ((p1 ++ (a :: q ++ o2)) ++ oe).Perm ((a :: o' ++ o2) ++ oe) := by
    refine List.Perm.append_right _ ?_
    have h5 : (a :: q ++ o2).Perm (a :: p2 ++ o2) := List.Perm.append_right _ (List.Perm.cons a (by simpa using g2))
    refine (List.Perm.append_left _ h5).trans ?_
    refine List.Perm.trans ?_ (List.Perm.append_right _ (List.Perm.cons a f3.symm))
    exact List.perm_iff_count.mpr fun x => by simp only [List.count_append, List.count_cons]; omega
  exact ⟨a, xs, b, rfl, k2, k3.len, f1, G, p1 ++ (a :: q ++ o2), oe, ⟨_, _, p1, a :: q ++ o2, rfl, f2, ⟨_, _, a :: q, o2, rfl, ⟨a, xs, q, rfl, k2, g1, rfl⟩, h3, rfl⟩, rfl⟩, s.env, pm.nodup_iff.mpr s.nd, fun x hx => s.fr x (pm.mem_iff.mp hx), s.g0, s.gh, s.h0, s.nw, fun q hq => by cases hq⟩
theorem OkS.unhole {b : Addr} (S : OkS K G0 H0 [] H (t :: .lst (pre ++ .al (b + 1) :: post) :: ts) (.ref b :: v :: vs) env σ) : OkS K G0 H0 [] H (.lst (pre ++ t :: post) :: ts) (v :: vs) env σ := by
  obtain ⟨G, ot, oe, s⟩ := S
  obtain ⟨w0, r0, oa, ob, c1, c2, ⟨u, r, o1, o2, h1, ⟨a, xs, o', k1, k2, k3, k4⟩, h3, h4⟩, c4⟩ := s.tmp
  cases c1
  cases h1
  subst k1; subst k4; subst h4; subst c4
  obtain ⟨w, p1, p2, f1, ⟨hw, hp1⟩, f3, f4⟩ := k3.foc (n := pre.length) (u := .al (b + 1)) (by simp)
  have hw : w = .ref b := hw (Nat.succ_ne_zero _)
  subst hw; subst hp1
  obtain ⟨q, g1, g2⟩ := f4 (G' := G) (H' := H) (Same.refl _) (fun _ _ => rfl) c2
  have e1 : (pre ++ T.al (b + 1) :: post).set pre.length t = pre ++ t :: post := by rw [List.set_append_right _ _ (Nat.le_refl _)]; simp
  rw [e1] at g1
  have pm : ((a :: q ++ o2) ++ oe).Perm ((oa ++ (a :: o' ++ o2)) ++ oe) := by
    refine List.Perm.append_right _ ?_
    have h5 : (a :: q ++ o2).Perm (a :: (oa ++ p2) ++ o2) := List.Perm.append_right _ (List.Perm.cons a g2)
    refine h5.trans ?_
    refine List.Perm.trans ?_ (List.Perm.append_left _ (List.Perm.append_right _ (List.Perm.cons a (by simpa using f3.symm))))
    exact List.perm_iff_count.mpr fun x => by simp only [List.count_append, List.count_cons]; omega
  exact ⟨G, a :: q ++ o2, oe, ⟨_, _, a :: q, o2, rfl, ⟨a, xs, q, rfl, k2, g1, rfl⟩, h3, rfl⟩, s.env, pm.nodup_iff.mpr s.nd, fun x hx => s.fr x (pm.mem_iff.mp hx), s.g0, s.gh, s.h0, s.nw, fun q hq => by cases hq⟩
end
def loopP (j : Nat) (body : SF) : List T → List T → Env → Option (Fl × List T × Env)
  | done, [], env => some (.nx, done, env)
  | done, t :: rest, env => if j < env.length ∧ isRT t = true then (body (env.set j (some t))).bind fun r => match r.2[j]? with
    | some (some t') => match r.1 with
      | .nx => loopP j body (done ++ [t']) rest (r.2.set j none)
      | .ct => loopP j body (done ++ [t']) rest (r.2.set j none)
      | .bk => some (.nx, done ++ t' :: rest, r.2.set j none)
      | .rt u => some (.rt u, done ++ t' :: rest, r.2.set j none)
    | _ => none
    else none
/-- for y in x: .., x a name's own list, y's thing changed -/
def sForP (i j : Nat) (body : SF) : SF := fun env => (atL env i).bind fun us => (loopP j body [] us (env.set i none)).map fun r => (r.1, r.2.2.set i (some (.lst r.2.1)))
theorem OkS.cell {K : PySem.W.Frag} {G0 H0 H : Hp} {us ts : List T} {vs : List V} {v : V} {env : Env} {σ : St} (S : OkS K G0 H0 [] H (.lst us :: ts) (v :: vs) env σ) : ∃ a xs, v = .ref a ∧ H a = some (.lst xs) ∧ xs.length = us.length := by
  obtain ⟨G, ot, oe, s⟩ := S
  obtain ⟨u, r, o1, o2, h1, ⟨a, xs, o', k1, k2, k3, k4⟩, h3, h4⟩ := s.tmp
  cases h1
  exact ⟨a, xs, k1, k2, k3.len⟩
theorem ds_forP {X : Cx} {body : List Stmt} {tb : TS} {F : SF} {pos npos py : Pos} {sl2 : List Nat} (i : Nat) {j : Nat} {x y : Str} (hp : PassesOwn (model X.prog X.w) X.A X.env X.xe) (hc : X.calm = true) (hn : X.N.Nodup) (hy : X.N[j]? = some y) (hyl : Loc X.env.scope y) (hb : DSs X body tb F sl2) (hij : i ∉ [j] ++ sl2) (hj : j ∉ sl2)
    (hN : X.N[i]? = some x := by rfl) (hv : Vis X.env.scope x := by first | exact Or.inl rfl | exact Or.inr (Or.inl rfl) | exact Or.inr (Or.inr rfl)) (hd : (x == ("__debug__" : Str)) = false := by decide) (hcd : (x == ("__classdict__" : Str)) = false := by decide)
    (hf : X.fn y = true ∨ X.env.scope.names.lookup y = some .local := by first | exact .inl rfl | exact .inr rfl | assumption)
    (hs : ∀ z, foldedSetIterable (.Name x npos) X.env z = pure z := by intro _; rfl) : DS X (.For (.Name y py) (.Name x npos) body [] pos) (tFor (iList X.K (tVar i)) (gName j) tb) (sForP i j F) ([j] ++ sl2) := by
  refine ⟨ps_for hp hc (pi_list (pe_var hN hv hd hcd)) (pg_name hn hy hyl hf) hb.ps hs, ?_⟩
  intro G0 H0 H ts vs env σ fl env' S e D q
  obtain ⟨us, g1, g2⟩ := obind e
  obtain ⟨⟨fl2, us2, e2⟩, g5, g6⟩ := omap g2
  have he := atL_eq g1
  obtain ⟨v, hv1, S1⟩ := S.get he
  obtain ⟨a, xs0, ev, hx0, _⟩ := S1.cell
  subst ev
  refine ⟨.ref a, hv1, a, rfl, ⟨xs0, .inl (.inl hx0)⟩, ?_⟩
  refine ⟨fun k m σ2 H => m = us.length - k ∧ k ≤ us.length ∧ Dif ([j] ++ sl2) σ σ2 ∧ ∃ env done rest, done.length = k ∧ done.length + rest.length = us.length ∧ OkS X.K G0 H0 [] H (.lst (done ++ rest) :: ts) (.ref a :: vs) env σ2 ∧ loopP j F done rest env = some (fl2, us2, e2), ⟨us.length, by simp, Nat.zero_le _, .rfl', _, [], us, rfl, by simp, S1, g5⟩, ?_⟩
  rintro k m σ2 H2 ⟨rfl, hle, df, env2, done, rest, hk, hkl, S2, hl⟩
  have fin : ∀ (fl : Fl) (us3 : List T) (env3 : Env) (H3 : Hp) (σ3 : St), (fl2, us2, e2) = (.nx, us3, env3) → OkS X.K G0 H0 [] H3 (.lst us3 :: ts) (.ref a :: vs) env3 σ3 → Dif ([j] ++ sl2) σ σ3 → D.nx σ3 H3 := fun _ us3 env3 H3 σ3 e S3 df3 => by
    cases e
    cases g6
    have hlen : i < σ.length := (List.getElem?_eq_some_iff.mp hv1).1
    have h3 : σ3[i]? = some (some (.ref a)) := (df3.2 i hij).trans hv1
    have S4 := S3.put (i := i) (by have := S3.len; rw [df3.1] at this; omega)
    rw [set_back h3] at S4
    exact q H3 σ3 S4 df3
  cases rest with
  | nil =>
    cases hl
    obtain ⟨a', xs, ea, hx, hxl⟩ := S2.cell
    cases ea
    rw [List.append_nil] at S2 hxl
    exact .inl ⟨⟨xs, .inl (.inl hx), by simp at hkl; omega⟩, fin .nx _ _ H2 σ2 rfl S2 df⟩
  | cons t rest =>
    have hl : (if j < env2.length ∧ isRT t = true then (F (env2.set j (some t))).bind _ else none) = some (fl2, us2, e2) := hl
    split at hl
    · rename_i hjt
      obtain ⟨⟨fl3, e3⟩, l1, l2⟩ := obind hl
      obtain ⟨a', xs, b, ea, hx, hxl, hxk, S3⟩ := S2.hole hjt.2
      cases ea
      rw [List.length_cons] at hkl
      refine .inr ⟨⟨xs, .ref b, .inl (.inl hx), by rw [← hk]; exact hxk⟩, fun σ' H' => k + 1 ≤ us.length ∧ Dif ([j] ++ sl2) σ σ' ∧ ∃ env done rest, done.length = k + 1 ∧ done.length + rest.length = us.length ∧ OkS X.K G0 H0 [] H' (.lst (done ++ rest) :: ts) (.ref a :: vs) env σ' ∧ loopP j F done rest env = some (fl2, us2, e2), fun σ' H' ⟨h1, h2⟩ => ⟨us.length - (k + 1), by omega, rfl, h1, h2⟩, fun w H3 hw => ?_⟩
      obtain ⟨eH, hw⟩ := hw
      subst eH
      have ew : V.ref b = w := Option.some.inj ((by rw [← hk]; exact hxk : xs[k]? = some (V.ref b)).symm.trans (hw xs (.inl (.inl hx))))
      subst ew
      have S4 := S3.put (i := j) hjt.1
      have hσl : j < σ2.length := by rw [S2.len]; exact hjt.1
      refine hb.ok _ _ _ _ _ _ _ _ _ S4 l1 _ ?_
      have back : ∀ (us0 : List T) (vs0 : List V) (t' : T) (H' : Hp) (σ' : St), e3[j]? = some (some t') → OkS X.K G0 H0 [] H' (us0 ++ .lst (done ++ .al (b + 1) :: rest) :: ts) (vs0 ++ .ref a :: vs) e3 σ' → vs0.length = us0.length → Dif sl2 (σ2.set j (some (V.ref b))) σ' → OkS X.K G0 H0 [] H' (.lst (done ++ t' :: rest) :: (us0 ++ ts)) (.ref a :: (vs0 ++ vs)) (e3.set j none) σ' := fun us0 vs0 t' H' σ' ht' S5 hv0 dfb => by
        obtain ⟨v', hv', S6⟩ := S5.get ht'
        have : σ'[j]? = some (some (V.ref b)) := by rw [dfb.2 j hj, List.getElem?_set_self hσl]
        rw [this] at hv'; cases hv'
        have S7 : OkS X.K G0 H0 [] H' (.lst (done ++ .al (b + 1) :: rest) :: ([t'] ++ us0 ++ ts)) (.ref a :: ([V.ref b] ++ vs0 ++ vs)) (e3.set j none) σ' := OkS.mid (us := [t'] ++ us0) (ws := [V.ref b] ++ vs0) (by simp [hv0]) (by simpa using S6)
        have S8 : OkS X.K G0 H0 [] H' (t' :: .lst (done ++ .al (b + 1) :: rest) :: (us0 ++ ts)) (V.ref b :: .ref a :: (vs0 ++ vs)) (e3.set j none) σ' := by
          exact OkS.mid (us := [.lst (done ++ .al (b + 1) :: rest)]) (ws := [V.ref a]) (x := t') (y := V.ref b) rfl S7
        exact S8.unhole
      have dd : ∀ σ', Dif sl2 (σ2.set j (some (V.ref b))) σ' → Dif ([j] ++ sl2) σ σ' := fun σ' d2 => df.two (Dif.tr Dif.set d2)
      split at l2
      · rename_i t' ht'
        have ht' : e3[j]? = some (some t') := ht'
        cases fl3 with
        | nx =>
          intro H' σ' S5 d2
          have S6 := back [] [] t' H' σ' ht' S5 rfl d2
          exact ⟨by omega, dd σ' d2, _, done ++ [t'], rest, by simp [hk], by simp; omega, by simpa using S6, l2⟩
        | ct =>
          intro H' σ' S5 d2
          have S6 := back [] [] t' H' σ' ht' S5 rfl d2
          exact ⟨by omega, dd σ' d2, _, done ++ [t'], rest, by simp [hk], by simp; omega, by simpa using S6, l2⟩
        | bk =>
          intro H' σ' S5 d2
          have S6 := back [] [] t' H' σ' ht' S5 rfl d2
          exact fin .nx _ _ H' σ' (Option.some.inj l2).symm S6 (dd σ' d2)
        | rt u =>
          intro w' H' σ' S5 d2
          have S6 := back [u] [w'] t' H' σ' ht' S5 rfl d2
          have e5 : (Fl.rt u, done ++ t' :: rest, e3.set j none) = (fl2, us2, e2) := Option.some.inj l2
          cases e5
          cases g6
          have d3 := dd σ' d2
          have h3 : σ'[i]? = some (some (.ref a)) := (d3.2 i hij).trans hv1
          have hlen : i < σ.length := (List.getElem?_eq_some_iff.mp hv1).1
          have S7 := S6.put (i := i) (by have := S6.len; rw [d3.1] at this; omega)
          rw [set_back h3] at S7
          exact q w' H' σ' S7 d3
      · cases l2
    · cases hl
end DL

set_option Elab.async false
set_option linter.all false
set_option maxRecDepth 100000
set_option maxHeartbeats 1000000
/-! all(..), any(..), isinstance with two classes. -/
namespace DL
open PySem PySem.Spec PyProof.Rows L2
def boolsD : List D → Option (List Bool)
  | [] => some []
  | .bl i :: r => (boolsD r).map (i :: ·)
  | _ => none
theorem boolsD_eq : ∀ {ds : List D} {bs : List Bool}, boolsD ds = some bs → ds = bs.map D.bl
  | [], bs, h => by cases h; rfl
  | d :: r, bs, h => by
    cases d with
    | bl b =>
      obtain ⟨ns, h1, h2⟩ := omap (show (boolsD r).map (b :: ·) = some bs from h)
      subst h2
      rw [boolsD_eq h1]; rfl
    | _ => cases h
theorem boolsD_map : ∀ bs : List Bool, boolsD (bs.map D.bl) = some bs
  | [] => rfl
  | b :: bs => by show (boolsD (bs.map D.bl)).map (b :: ·) = _; rw [boolsD_map bs]; rfl
theorem rpDs_bools {K : PySem.W.Frag} {G : Hp} : ∀ {bs : List Bool} {vs : List V}, RpDs K G (bs.map D.bl) vs → vs = bs.map V.bl
  | [], vs, h => h
  | b :: bs, vs, ⟨v, r, h1, h2, h3⟩ => by rw [h1, show v = _ from h2, rpDs_bools h3]; rfl
def gAll (t : T) : Option D := (listD t.toD).bind fun ds => (boolsD ds).map fun bs => .bl (bs.all id)
def gAny (t : T) : Option D := (listD t.toD).bind fun ds => (boolsD ds).map fun bs => .bl (bs.any id)
theorem bi_all : Bi1 rAll gAll := by
  intro K H t d v Q h r q
  obtain ⟨ds, h1, h2⟩ := obind h
  obtain ⟨bs, h3, h4⟩ := omap h2
  subst h4
  cases hd : t.toD <;> rw [hd] at h1 <;> cases h1
  rw [hd] at r
  obtain ⟨a, xs, e1, e2, e3⟩ := r
  rw [boolsD_eq h3] at e3
  rw [rpDs_bools e3] at e2
  exact ⟨a, bs, by rw [e1], .inl e2, q _ fun _ => rfl⟩
theorem bi_any : Bi1 rAny gAny := by
  intro K H t d v Q h r q
  obtain ⟨ds, h1, h2⟩ := obind h
  obtain ⟨bs, h3, h4⟩ := omap h2
  subst h4
  cases hd : t.toD <;> rw [hd] at h1 <;> cases h1
  rw [hd] at r
  obtain ⟨a, xs, e1, e2, e3⟩ := r
  rw [boolsD_eq h3] at e3
  rw [rpDs_bools e3] at e2
  exact ⟨a, bs, by rw [e1], .inl e2, q _ fun _ => rfl⟩
section
variable {X : Cx} {a e : Expr} {ta te : TE} {fa f : EF} {npos p pos p1 p2 tpos : Pos}
theorem dt_all (hc : X.calm = true) (hg : Gl X "all") (hm : X.mg "all" = none) (h : DV X a ta fa) (hv : bootBuiltins "all" = some (.builtin "all") := by decide +kernel) (hs : starEach [a] X.env = (false, eval a X.env) :: starEach [] X.env := by rfl) : DT X (.Call (.Name "all" npos) [a] [] pos) (tCB (rAll X.K) (tCons ta tNil)) (eB1 gAll fa) := dt_b1 (cr_all hc) bi_all hg hm hv h hs
theorem dt_any (hc : X.calm = true) (hg : Gl X "any") (hm : X.mg "any" = none) (h : DV X a ta fa) (hv : bootBuiltins "any" = some (.builtin "any") := by decide +kernel) (hs : starEach [a] X.env = (false, eval a X.env) :: starEach [] X.env := by rfl) : DT X (.Call (.Name "any" npos) [a] [] pos) (tCB (rAny X.K) (tCons ta tNil)) (eB1 gAny fa) := dt_b1 (cr_any hc) bi_any hg hm hv h hs
/-- a cell laid that nothing points to -/
theorem OkS.junk {K : PySem.W.Frag} {G0 H0 H : Hp} {W : List (T × V)} {ts : List T} {vs : List V} {env : Env} {σ : St} {q : Addr} {u : HO} (S : OkS K G0 H0 W H ts vs env σ) (hq : H q = none) : OkS K G0 H0 W (upd H q u) ts vs env σ := by
  obtain ⟨G, ot, oe, s⟩ := S
  have sm := same_upd (o := u) hq
  have ne : ∀ {o : List Addr}, (∀ a ∈ o, ∃ x, H a = some x) → ∀ a ∈ o, upd H q u a = H a := fun h a ha => by
    obtain ⟨x, e⟩ := h a ha
    exact upd_ne (fun z => by rw [z, hq] at e; cases e)
  exact ⟨G, ot, oe, s.tmp.mono (Same.refl _) _ (ne fun a ha => by obtain ⟨x, e, _⟩ := s.tmp.there _ a ha; exact ⟨x, e⟩), s.env.mono (Same.refl _) _ (ne fun a ha => by obtain ⟨x, e, _⟩ := s.env.there _ a ha; exact ⟨x, e⟩), s.nd, s.fr, s.g0, s.gh.trans sm, s.h0.trans sm, s.nw, fun z hz => by
    obtain ⟨o, r⟩ := s.vw z hz
    exact ⟨o, r.mono (Same.refl _) _ (ne fun a ha => by obtain ⟨x, e, _⟩ := r.there _ a ha; exact ⟨x, e⟩)⟩⟩
/-- isinstance(e, (T1, T2)) -/
def eIsi2 (t1 t2 : String) (f : EF) : EF := fun env => (f env).bind fun r => if tyOk r.1.toD = true then (kitB (tyD r.1.toD) t1).bind fun b => (kitB (tyD r.1.toD) t2).map fun c => (.p (.bl (b || c)), r.2) else none
theorem kit_two {K : PySem.W.Frag} {d t1 t2 : String} {b c : Bool} (h1 : kitB d t1 = some b) (h2 : kitB d t2 = some c) : PySem.W.kitAny K (.type d) [.type t1, .type t2] = some (b || c) := by
  cases b with
  | true => exact kitAny_cons (kit_ty h1) (fun h => by cases h) (fun _ => rfl)
  | false =>
    refine kitAny_cons (kit_ty h1) (fun _ => ?_) (fun h => by cases h)
    cases c with
    | true => exact kitAny_cons (kit_ty h2) (fun h => by cases h) (fun _ => rfl)
    | false => exact kitAny_cons (kit_ty h2) (fun _ => kitAny_nil) (fun h => by cases h)
theorem dt_isi2 {k : Nat} {t1 t2 : String} {x1 x2 : Str} (hg : Gl X "isinstance") (hm : X.mg "isinstance" = none) (h : DV X e te f) (hg1 : Gl X x1) (hm1 : X.mg x1 = none) (hv1 : bootBuiltins x1 = some (.type t1)) (hg2 : Gl X x2) (hm2 : X.mg x2 = none) (hv2 : bootBuiltins x2 = some (.type t2))
    (hv : bootBuiltins "isinstance" = some (.builtin "isinstance") := by decide +kernel)
    (hs : starEach [e, .Tuple [.Name x1 p1, .Name x2 p2] k tpos] X.env = (false, eval e X.env) :: starEach [.Tuple [.Name x1 p1, .Name x2 p2] k tpos] X.env := by rfl)
    (hs2 : starEach [.Tuple [.Name x1 p1, .Name x2 p2] k tpos] X.env = (false, eval (.Tuple [.Name x1 p1, .Name x2 p2] k tpos) X.env) :: starEach [] X.env := by rfl)
    (hs3 : starEach [.Name x1 p1, .Name x2 p2] X.env = (false, eval (.Name x1 p1) X.env) :: starEach [.Name x2 p2] X.env := by rfl)
    (hs4 : starEach [.Name x2 p2] X.env = (false, eval (.Name x2 p2) X.env) :: starEach [] X.env := by rfl)
    (hn1 : x1 ≠ "__name__" := by decide) (hd1 : (x1 == ("__debug__" : Str)) = false := by decide) (hn2 : x2 ≠ "__name__" := by decide) (hd2 : (x2 == ("__debug__" : Str)) = false := by decide) :
    DT X (.Call (.Name "isinstance" p) [e, .Tuple [.Name x1 p1, .Name x2 p2] k tpos] [] pos) (tCB (rIsiT X.K) (tCons te (tCons (tTup (tCons (tC (.ty t1)) (tCons (tC (.ty t2)) tNil))) tNil))) (eIsi2 t1 t2 f) := by
  refine ⟨pe_callB call_isiT hg hm hv (pa_cons h.pe (pa_cons (pe_tup (pa_cons (pe_bltn hg1 hm1 hv1 (show RelV (.ty t1) (.type t1) from rfl) hn1 hd1) (pa_cons (pe_bltn hg2 hm2 hv2 (show RelV (.ty t2) (.type t2) from rfl) hn2 hd2) pa_nil hs4) hs3)) pa_nil hs2) hs) (by decide) (by decide) hs (by rw [hs2]; rfl), ?_⟩
  intro G0 H0 W H ts vs env σ t env' S g Q q
  obtain ⟨⟨u, e1⟩, h1, h2⟩ := obind g
  have hk : tyOk u.toD = true := by
    by_cases c : tyOk u.toD = true
    · exact c
    · rw [if_neg (show ¬ tyOk (u, e1).1.toD = true from c)] at h2; cases h2
  rw [if_pos (show tyOk (u, e1).1.toD = true from hk)] at h2
  obtain ⟨b, h3, h4⟩ := obind h2
  obtain ⟨c, h5, h6⟩ := omap h4
  cases h6
  refine h.ok _ _ _ _ _ _ _ _ _ _ S h1 _ fun v H1 s1 S1 => ?_
  refine ⟨by show 2 ≤ sizeLine; rw [sizeLine_eq]; omega, fun tp htp => ?_⟩
  have S2 := S1.junk (u := .tup [.ty t1, .ty t2]) htp
  refine ⟨v, tp, [.ty t1, .ty t2], _, [.type t1, .type t2], b || c, rfl, upd_same, .cons (.ty t1) (.cons (.ty t2) .nil), tyD_x (S2.see (q := (u, v)) (by simp)) hk, kit_two h3 h5, q _ _ (s1.trans (same_upd htp)) (S2.unview.scal fun _ => rfl)⟩
end
end DL

set_option Elab.async false
set_option linter.all false
set_option maxRecDepth 100000
set_option maxHeartbeats 1000000
/-! list(d.items()). -/
namespace DL
open PySem PySem.Spec PyProof.Rows L2 LiI
def itemD (kv : Key × D) : D := .tup [kD kv.1, kv.2]
theorem items_rp {K : PySem.W.Frag} {G G1 : Hp} (sg : Same G G1) {H' : Hp} (hG : ∀ a xs, H' a = some (.tup xs) → G1 a = some (.tup xs)) : ∀ {kd : List (Key × D)} {xs : List (Key × V)} {ts : List Addr}, RpKs K G kd xs → Paired (fun (t : Addr) (q : Key × V) => H' t = some (.tup [L2.kV q.1, q.2])) ts xs → RpDs K G1 (kd.map itemD) (ts.map V.ref)
  | [], xs, ts, h, p => by
    rw [show xs = [] from h] at p
    cases p
    exact rfl
  | (k, d) :: kd, _, _, ⟨v, r, h1, h2, h3⟩, p => by
    subst h1
    cases p with
    | cons e p =>
      exact ⟨_, _, rfl, ⟨_, _, rfl, hG _ _ e, _, _, rfl, kD_rp k, v, [], rfl, RpD.mono sg d h2, rfl⟩, items_rp sg hG h3 p⟩
def eItemsL (f : EF) : EF := fun env => (f env).bind fun r => match r.1 with
  | .dic kvs => (frzK kvs).map fun kd => (.lst ((kd.map itemD).map T.p), r.2)
  | _ => none
theorem dt_listItems {X : Cx} {e : Expr} {te : TE} {f : EF} {p apos cpos pos : Pos} (hc : X.calm = true) (hg : Gl X "list") (hm : X.mg "list" = none) (h : DV X e te f) (hv : bootBuiltins "list" = some (.type "list") := by decide +kernel) (hbase : attributeBase e "items" X.env (eval e X.env) = eval e X.env := by rfl) (hline : (apos.endLine == cpos.line) = true := by rfl)
    (hs : starEach [.Call (.Attribute e "items" apos) [] [] cpos] X.env = (false, eval (.Call (.Attribute e "items" apos) [] [] cpos) X.env) :: starEach [] X.env := by rfl) :
    DT X (.Call (.Name "list" p) [.Call (.Attribute e "items" apos) [] [] cpos] [] pos) (tListItems te) (eItemsL f) := by
  refine ⟨pe_listItems hc h.pe hg hm hv hbase hline hs, ?_⟩
  intro G0 H0 W H ts vs env σ t env' S g Q q
  obtain ⟨⟨u, e1⟩, g1, g2⟩ := obind g
  cases u with
  | dic kvs =>
    obtain ⟨kd, g3, g4⟩ := omap (show (frzK kvs).map _ = some (t, env') from g2)
    cases g4
    have ek := frzK_eq g3
    subst ek
    refine h.ok _ _ _ _ _ _ _ _ _ _ S g1 _ fun v H1 s1 S1 => ?_
    obtain ⟨G, ot, oe, s⟩ := S1
    obtain ⟨o, a, xs, o', k1, k2, k3, k4⟩ := s.vw (.dic (pairsT kd), v) (by simp)
    obtain ⟨k5, _⟩ := rpTk_of k3
    have s' : St0 X.K G0 H0 W G H1 ts vs _ σ ot oe := ⟨s.tmp, s.env, s.nd, s.fr, s.g0, s.gh, s.h0, s.nw, fun q hq => s.vw q (List.mem_cons_of_mem _ hq)⟩
    refine ⟨a, xs, k1, k2, fun H' l tl h1 h2 h3 h4 h5 h6 => ?_⟩
    have sH : Same H1 H' := h1
    have gg : Same G (plusT G H') := fun b x e => by
      have e2 : H' b = some x := sH b x (s.gh b x e)
      by_cases c : ∃ ys, x = .tup ys
      · obtain ⟨ys, rfl⟩ := c; exact plusT_tup e2
      · rw [plusT_ne (fun ys z => by rw [e2] at z; cases z; exact c ⟨ys, rfl⟩)]; exact e
    have rr := items_rp (K := X.K) gg (H' := H') (G1 := plusT G H') (fun b ys e => plusT_tup e) k5 h6
    have r4 : Rp X.K (plusT G H') H' (.lst ((kd.map itemD).map T.p)) (.ref l) [l] := ⟨l, tl.map V.ref, [], rfl, h5, rpTs_p rr, rfl⟩
    refine q (.ref l) H' (s1.trans sH) (OkS.called s' gg (fun b x e0 => ?_) sH r4 (by simp) (fun b hb => ?_) fun b x e => ?_)
    · rcases plusT_cases e0 with e | ⟨ys, rfl, e⟩
      · exact sH b x (s.gh b x e)
      · exact e
    · rw [List.mem_singleton.mp hb]
      refine ⟨?_, h2⟩
      rw [plusT_ne (fun ys z => by rw [h5] at z; cases z)]
      exact Same.none s.gh h2
    · rcases plusT_cases e with e | ⟨ys, rfl, e⟩
      · exact .inl (by rw [e]; simp)
      · exact .inr (.inr ⟨ys, rfl⟩)
  | _ => cases g2
/-- s.index(t), where it is found -/
def gIndex (a b : Str) : Option D := match Builtin.Str.occurrences a b 0 a.length 1 with
  | i :: _ => some (.int ((i : Nat) : Int))
  | [] => none
theorem dt_index {X : Cx} {o e : Expr} {to te : TE} {fo fe : EF} {apos pos : Pos} (ho : DT X o to fo) (he : DT X e te fe) (hs : starEach [e] X.env = [(false, eval e X.env)] := by rfl) (hbase : attributeBase o "index" X.env (eval o X.env) = eval o X.env := by rfl) (hline : (apos.endLine == pos.line) = true := by rfl) :
    DT X (.Call (.Attribute o "index" apos) [e] [] pos) (tM1 (fun x xs H Q => ∃ a b i rest, x = .str a ∧ xs = [.str b] ∧ Builtin.Str.occurrences a b 0 a.length 1 = i :: rest ∧ Q (.int (i : Nat)) H) to te) (eM1 gIndex fo fe) :=
  dt_m1 F.slot_str_index F.type_str_index mt_sindex (fun a b d H Q h q => by
    unfold gIndex at h
    split at h
    · rename_i i rest hi
      cases h
      exact ⟨a, b, i, rest, rfl, rfl, hi, q _ fun _ _ => rfl⟩
    · cases h) ho he hs hbase hline
end DL

set_option Elab.async false
set_option linter.all false
set_option maxRecDepth 100000
/-! The later combinators once more without binders. -/
namespace DL
open PySem PySem.Spec PyProof.Rows L2
variable {env e : Env} {i j n k : Nat} {t u : T} {ts us : List T} {d a b : D} {ds es : List D} {fa fb fc f fk fx : EF} {r : AF} {F1 F2 F : SF} {G : GF} {z w : Int} {P : List Stp} {fo : PF} {ky : Key} {kvs : List (Key × T)} {nm fn : Str} {fs : List (Str × T)} {ad : Addr} {kd : List (Key × D)} {φ : T → List D → Option (T × T)} {ψ : List D → Option T}
-- moved out
def kMvP2 (i : Nat) (P : List Stp) (e : Env) (u : T) : T × Env := (u, putP e i P (.al 0))
theorem kMvP2_q : kMvP2 i P e u = (u, putP e i P (.al 0)) := id rfl
def kMvP (i : Nat) (r : List Stp × Env) : Option (T × Env) := (atP r.2 i r.1).map (kMvP2 i r.1 r.2)
theorem eMvP_q : eMvP i fo env = (fo env).bind (kMvP i) := id rfl
theorem kMvP_q : kMvP i (P, e) = (atP e i P).map (kMvP2 i P e) := id rfl
-- objects made, methods
def kMk3 (e : Env) (z : T × T) : Option (T × Env) := match z.1 with
  | .p .non => some (z.2, e)
  | _ => none
theorem kMk3_q : kMk3 e (.p .non, t) = some (t, e) := id rfl
def kMk2 (nm : Str) (φ : T → List D → Option (T × T)) (e : Env) (ds : List D) : Option (T × Env) := (φ (.obj nm []) ds).bind (kMk3 e)
theorem kMk2_q : kMk2 nm φ e ds = (φ (.obj nm []) ds).bind (kMk3 e) := id rfl
def kMk1 (nm : Str) (φ : T → List D → Option (T × T)) (s : List T × Env) : Option (T × Env) := (allP s.1).bind (kMk2 nm φ s.2)
theorem kMk1_q : kMk1 nm φ (ts, e) = (allP ts).bind (kMk2 nm φ e) := id rfl
theorem eMake_q : eMake nm φ r env = (r env).bind (kMk1 nm φ) := id rfl
def kMe2 (n m : Str) (φ : T → List D → Option (T × T)) (i : Nat) (fr : AF) (P : List Stp) (e : Env) (t : T) : Option (T × Env) := match unb t with
  | .obj c fs => if c = n ∧ (valT fs m).isNone = true then (fr e).bind (kCM2 φ i P) else none
  | _ => none
def kMe1 (n m : Str) (φ : T → List D → Option (T × T)) (i : Nat) (fr : AF) (x : List Stp × Env) : Option (T × Env) := (atP x.2 i x.1).bind (kMe2 n m φ i fr x.1 x.2)
theorem eMethM_q : eMethM nm fn φ i fo r env = (fo env).bind (kMe1 nm fn φ i r) := id rfl
theorem kMe1_q : kMe1 nm fn φ i r (P, e) = (atP e i P).bind (kMe2 nm fn φ i r P e) := id rfl
theorem kMe2_q : kMe2 nm fn φ i r P e (.obj nm fs) = if (valT fs fn).isNone = true then (r e).bind (kCM2 φ i P) else none := by
  show (if nm = nm ∧ _ then _ else _) = _
  by_cases h : (valT fs fn).isNone = true
  · rw [if_pos ⟨rfl, h⟩, if_pos h]
  · rw [if_neg (fun x => h x.2), if_neg h]
-- calls that look
def kCl2 (e : Env) (t : T) : Option (T × Env) := if cleanV t = true then some (t, e) else none
theorem kCl2_q : kCl2 e t = if cleanV t = true then some (t, e) else none := id rfl
def kCC (ψ : List D → Option T) (r : List T × Env) : Option (T × Env) := (ψ (T.toDs r.1)).bind (kCl2 r.2)
theorem eCallC_q : eCallC ψ r env = (r env).bind (kCC ψ) := id rfl
theorem kCC_q : kCC ψ (ts, e) = (ψ (T.toDs ts)).bind (kCl2 e) := id rfl
-- boxes
def kAb4 (i : Nat) (P : List Stp) (a : Addr) (x : T) (e : Env) (t : T) : Option (Fl × Env) := match t with
  | .box b (.lst us) => if b = a ∧ us.length < 16000000 then some (.nx, putP e i P (.box b (.lst (us ++ [x])))) else none
  | _ => none
def kAb3 (i : Nat) (P : List Stp) (a : Addr) (s : T × Env) : Option (Fl × Env) := (atP s.2 i P).bind (kAb4 i P a s.1 s.2)
def kAb2 (i : Nat) (f : EF) (P : List Stp) (e : Env) (t : T) : Option (Fl × Env) := match t with
  | .box a (.lst _) => (f e).bind (kAb3 i P a)
  | _ => none
def kAb1 (i : Nat) (f : EF) (r : List Stp × Env) : Option (Fl × Env) := (atP r.2 i r.1).bind (kAb2 i f r.1 r.2)
theorem sAppB_q : sAppB i fo f env = (fo env).bind (kAb1 i f) := by unfold sAppB; congr 1
theorem kAb1_q : kAb1 i f (P, e) = (atP e i P).bind (kAb2 i f P e) := id rfl
theorem kAb2_q : kAb2 i f P e (.box ad (.lst us)) = (f e).bind (kAb3 i P ad) := id rfl
theorem kAb3_q : kAb3 i P ad (t, e) = (atP e i P).bind (kAb4 i P ad t e) := id rfl
theorem kAb4_q : kAb4 i P ad t e (.box ad (.lst us)) = if us.length < 16000000 then some (.nx, putP e i P (.box ad (.lst (us ++ [t])))) else none := by
  show (if ad = ad ∧ _ then _ else _) = _
  by_cases h : us.length < 16000000
  · rw [if_pos ⟨rfl, h⟩, if_pos h]
  · rw [if_neg (fun x => h x.2), if_neg h]
-- tuple keys
theorem eDt_q : eDt env = some (.dit (pairsTt []), env) := id rfl
theorem keyTT_q : keyTT (.p (.tup ds)) = keysL ds := id rfl
theorem keysL_n : keysL [] = some [] := id rfl
def kKs (k : Key) (ks : List Key) : List Key := k :: ks
theorem kKs_q {ks : List Key} : kKs ky ks = ky :: ks := id rfl
def kKl2 (ds : List D) (k : Key) : Option (List Key) := (keysL ds).map (kKs k)
theorem keysL_c : keysL (d :: ds) = (keyD d).bind (kKl2 ds) := id rfl
theorem kKl2_q : kKl2 ds ky = (keysL ds).map (kKs ky) := id rfl
theorem keyD_i : keyD (.int z) = some (.inl z) := id rfl
theorem keyD_s {s : Str} : keyD (.str s) = some (.inr s) := id rfl
variable {kt : List (List Key × D)} {kk : List Key}
theorem ditT_o : ditT (.dit (pairsTt kt)) = some kt := frzT_pairs kt
theorem ditT_p : ditT (.p (.dit kt)) = some kt := id rfl
def kGt5 (kt : List (List Key × D)) (u : T × Env) (k : List Key) : Option (T × Env) := match u.1 with
  | .p z => some (.p ((valDt kt k).getD z), u.2)
  | _ => none
def kGt4 (s : T) (u : T × Env) (kt : List (List Key × D)) : Option (T × Env) := (keyTT s).bind (kGt5 kt u)
def kGt3 (t s : T) (u : T × Env) : Option (T × Env) := (ditT t).bind (kGt4 s u)
def kGt2 (fx : EF) (t : T) (s : T × Env) : Option (T × Env) := (fx s.2).bind (kGt3 t s.1)
def kGt1 (fi fx : EF) (r : T × Env) : Option (T × Env) := (fi r.2).bind (kGt2 fx r.1)
theorem eDgetT_q : eDgetT f fk fx env = (f env).bind (kGt1 fk fx) := id rfl
theorem kGt1_q : kGt1 fk fx (t, e) = (fk e).bind (kGt2 fx t) := id rfl
theorem kGt2_q : kGt2 fx t (u, e) = (fx e).bind (kGt3 t u) := id rfl
theorem kGt3_q {s : T} : kGt3 t s (.p d, e) = (ditT t).bind (kGt4 s (.p d, e)) := id rfl
theorem kGt4_q {s : T} : kGt4 s (.p d, e) kt = (keyTT s).bind (kGt5 kt (.p d, e)) := id rfl
theorem kGt5_q : kGt5 kt (.p d, e) kk = some (.p ((valDt kt kk).getD d), e) := id rfl
end DL

set_option Elab.async false
set_option linter.all false
set_option maxRecDepth 100000
set_option maxHeartbeats 4000000
namespace K30
noncomputable section
open PySem PySem.Spec PyProof.Rows L2 DL
def F_book_begun : SF :=
  (sSeq (sSet 1 (eComp [2, 3, 4] (iL (eW (eIx (eB 0) (eC (.int 1))))) (gTp 3 (gAnd (gNm 2) (gAnd (gNm 3) (gAnd (gNm 4) gEnd)))) cYes (eT (aC (eV 2) (aC (eV 3) aN)))))
  (sSeq (sSet 5 (eComp [2, 3, 4] (iL (eW (eIx (eB 0) (eC (.int 1))))) (gTp 3 (gAnd (gNm 2) (gAnd (gNm 3) (gAnd (gNm 4) gEnd)))) cYes (eT (aC (eV 2) (aC (eC (.int 0)) aN)))))
  (sSeq (sSet 6 (eComp [2, 3, 4] (iL (eW (eIx (eB 0) (eC (.int 1))))) (gTp 3 (gAnd (gNm 2) (gAnd (gNm 3) (gAnd (gNm 4) gEnd)))) cYes (eT (aC (eV 2) (aC (eC (.int 0)) aN)))))
  (sSeq (sSet 7 (eComp [8, 9] (iL (eW (eIx (eB 0) (eC (.int 2))))) (gTp 2 (gAnd (gNm 8) (gAnd (gNm 9) gEnd))) cYes (eT (aC (eV 8) (aC (eC (.int 0)) aN)))))
  (sRet (eT (aC (eM 1) (aC (eM 5) (aC (eM 6) (aC (eM 7) (aC (eC (.int 0)) aN)))))))))))
def phi_book_begun : List D → Option T := runF 10 1 F_book_begun
def F_begun : SF :=
  (sRet (eT (aC (eComp [1] (iL (eV 0)) (gNm 1) cYes (eCall phi_book_begun (aC (eV 1) aN))) (aC (eL aN) (aC (eComp [1] (iL (eV 0)) (gNm 1) cYes (eC (.int 0))) aN)))))
def phi_begun : List D → Option T := runF 2 1 F_begun
def B_order_now_1 : SF :=
  (sIf (cT (eCmp cGe (eDix (eB 2) (eV 3)) (eB 4))) (sRet (eM 5)) sNx)
def F_order_now : SF :=
  (sSeq (sSet 2 (eFz (eDictP (eIx (eB 1) (eC (.int 2))))))
  (sSeq (sFor (iL (eW (eIx (eB 0) (eC (.int 5))))) (gTp 3 (gAnd (gNm 3) (gAnd (gNm 4) (gAnd (gNm 5) gEnd)))) B_order_now_1)
  (sRet (eW (eIx (eIx (eIx (eB 0) (eC (.int 4))) (eC (.int 0))) (eC (.int 0)))))))
def phi_order_now : List D → Option T := runF 6 2 F_order_now
def F_law_draw : SF :=
  (sSeq (sSet 3 (eC (.int 0)))
  (sSeq (sIf (cT (eCmp cGt (eB1 gLen (eB 0)) (eC (.int 0)))) (sSet 3 (eW (eIx (eB 0) (eOp gMod (eV 1) (eB1 gLen (eB 0)))))) sNx)
  (sSeq (sSet 4 (eOp gMod (eOp gMul (eOp gAdd (eOp gAdd (eOp gMod (eV 3) (eC (.int 2147483647))) (eOp gMul (eC (.int 7)) (eV 1))) (eC (.int 3))) (eOp gAdd (eC (.int 48271)) (eOp gMul (eOp gMul (eC (.int 1103)) (eV 1)) (eV 1)))) (eC (.int 2147483629))))
  (sRet (eOp gMod (eOp gDiv (eV 4) (eC (.int 64))) (eV 2))))))
def phi_law_draw : List D → Option T := runF 5 3 F_law_draw
def F_law_coins : SF :=
  (sSeq (sSet 2 (eC (.int 0)))
  (sSeq (sIf (cT (eCmp cGt (eB1 gLen (eB 0)) (eC (.int 0)))) (sSet 2 (eW (eIx (eB 0) (eOp gMod (eV 1) (eB1 gLen (eB 0)))))) sNx)
  (sSeq (sIf (cT (eCmp cGt (eCall phi_law_draw (aC (eV 0) (aC (eC (.int 900)) (aC (eC (.int 3)) aN)))) (eC (.int 0)))) (sRet (eOp gAdd (eC (.int 1)) (eCall phi_law_draw (aC (eV 0) (aC (eV 1) (aC (eC (.int 9)) aN)))))) sNx)
  (sRet (eOp gAdd (eC (.int 1)) (eOp gMod (eOp gMul (eOp gAdd (eOp gAdd (eOp gMod (eV 2) (eOp gPow (eC (.int 10)) (eC (.int 40)))) (eOp gMul (eV 1) (eV 1))) (eC (.int 1))) (eOp gPow (eC (.int 48271)) (eC (.int 5)))) (eOp gPow (eC (.int 10)) (eC (.int 12)))))))))
def phi_law_coins : List D → Option T := runF 3 2 F_law_coins
def F_law_names : SF :=
  (sSeq (sSet 1 (eC (.str (PySem.Str.ofString "bcdfgjkmnpqvwxyz"))))
  (sSeq (sSet 2 (eOp gMulA (eC (.str (PySem.Str.ofString "zq"))) (eCall phi_law_draw (aC (eV 0) (aC (eC (.int 901)) (aC (eC (.int 2)) aN))))))
  (sSeq (sSet 3 (eSl (eC (.str (PySem.Str.ofString "vzb"))) oN (oS (eCall phi_law_draw (aC (eV 0) (aC (eC (.int 902)) (aC (eC (.int 4)) aN)))))))
  (sSeq (sSet 4 (eFz (eCall phi_law_draw (aC (eV 0) (aC (eC (.int 903)) (aC (eC (.int 16)) aN))))))
  (sRet (eComp [5] (iR1 (aC (eC (.int 16)) aN)) (gNm 5) cYes (eOp gAdd (eOp gAdd (eV 2) (eW (eIx (eB 1) (eOp gMod (eOp gAdd (eV 4) (eV 5)) (eC (.int 16)))))) (eV 3))))))))
def phi_law_names : List D → Option T := runF 6 1 F_law_names
def B_law_some_1 : SF :=
  (sIf (cT (eCmp cGt (eCall phi_law_draw (aC (eV 0) (aC (eOp gAdd (eV 1) (eV 4)) (aC (eC (.int 3)) aN)))) (eC (.int 0)))) (sApp 3 (eV 5)) sNx)
def F_law_some : SF :=
  (sSeq (sSet 3 (eL aN))
  (sSeq (sFor (iEn (aC (eV 2) aN)) (gTp 2 (gAnd (gNm 4) (gAnd (gNm 5) gEnd))) B_law_some_1)
  (sSeq (sIf (cT (eCmp eqQ (eCall phi_law_draw (aC (eV 0) (aC (eOp gAdd (eV 1) (eC (.int 9))) (aC (eC (.int 2)) aN)))) (eC (.int 1)))) (sRevP 3 (pNm 3)) sNx)
  (sRet (eM 3)))))
def phi_law_some : List D → Option T := runF 6 3 F_law_some
def F_law_rule : SF :=
  (sSeq (sSet 5 (eFz (eCall phi_law_draw (aC (eV 0) (aC (eV 1) (aC (eC (.int 9)) aN))))))
  (sSeq (sSet 6 (eW (eIx (eB 2) (eCall phi_law_draw (aC (eV 0) (aC (eOp gAdd (eV 1) (eC (.int 1))) (aC (eB1 gLen (eB 2)) aN)))))))
  (sSeq (sIf (cT (eCmp cLt (eB 5) (eC (.int 3)))) (sRet (eT (aC (eC (.str (PySem.Str.ofString "pay"))) (aC (eM 6) aN)))) sNx)
  (sSeq (sIf (cAnd (cT (eCmp eqQ (eB 5) (eC (.int 3)))) (cAnd (cT (eCmp cGt (eB1 gLen (eB 2)) (eC (.int 1)))) (cT (eCmp eqQ (eCall phi_law_draw (aC (eV 0) (aC (eOp gAdd (eV 1) (eC (.int 2))) (aC (eC (.int 2)) aN)))) (eC (.int 0)))))) (sRet (eT (aC (eC (.str (PySem.Str.ofString "share"))) (aC (eTuple (eSl (eB 2) oN (oS (eC (.int 2))))) aN)))) sNx)
  (sSeq (sIf (cAnd (cT (eCmp eqQ (eB 5) (eC (.int 3)))) (cT (eCmp cGt (eB1 gLen (eB 2)) (eC (.int 1))))) (sRet (eT (aC (eC (.str (PySem.Str.ofString "share"))) (aC (eTuple (eCat (eSl (eB 2) (oS (eNeg (eC (.int 1)))) oN) (eSl (eB 2) oN (oS (eNeg (eC (.int 1))))))) aN)))) sNx)
  (sSeq (sIf (cT (eCmp eqQ (eB 5) (eC (.int 4)))) (sRet (eT (aC (eC (.str (PySem.Str.ofString "repay"))) (aC (eM 6) aN)))) sNx)
  (sSeq (sIf (cAnd (cT (eCmp eqQ (eB 5) (eC (.int 5)))) (cT (eCmp cGt (eB1 gLen (eB 3)) (eC (.int 0))))) (sRet (eT (aC (eC (.str (PySem.Str.ofString "fill"))) (aC (eW (eIx (eB 3) (eCall phi_law_draw (aC (eV 0) (aC (eOp gAdd (eV 1) (eC (.int 2))) (aC (eB1 gLen (eB 3)) aN)))))) aN)))) sNx)
  (sSeq (sIf (cAnd (cT (eCmp cGt (eB 5) (eC (.int 5)))) (cT (eCmp cGt (eB1 gLen (eB 4)) (eC (.int 0))))) (sSeq (sSet 7 (eW (eIx (eB 4) (eCall phi_law_draw (aC (eV 0) (aC (eOp gAdd (eV 1) (eC (.int 2))) (aC (eB1 gLen (eB 4)) aN)))))))
  (sSeq (sIf (cT (eCmp eqQ (eB 5) (eC (.int 8)))) (sRet (eT (aC (eC (.str (PySem.Str.ofString "back"))) (aC (eM 7) aN)))) sNx)
  (sRet (eT (aC (eC (.str (PySem.Str.ofString "lend"))) (aC (eM 7) (aC (eCall phi_law_coins (aC (eV 0) (aC (eOp gAdd (eV 1) (eC (.int 3))) aN))) aN))))))) sNx)
  (sRet (eT (aC (eC (.str (PySem.Str.ofString "pay"))) (aC (eM 6) aN))))))))))))
def phi_law_rule : List D → Option T := runF 8 5 F_law_rule
def B_law_order_1 : SF :=
  (sIf (cT (eCmp eqQ (eCall phi_law_draw (aC (eV 0) (aC (eOp gAdd (eV 1) (eV 7)) (aC (eC (.int 4)) aN)))) (eC (.int 0)))) (sApp 6 (eFz (eT (aC (eV 8) (aC (eOp gAdd (eC (.int 1)) (eCall phi_law_draw (aC (eV 0) (aC (eOp gAdd (eOp gAdd (eV 1) (eC (.int 5))) (eV 7)) (aC (eC (.int 10)) aN))))) aN))))) sNx)
def B_law_order_2 : SF :=
  (sApp 9 (eFz (eCall phi_law_rule (aC (eV 0) (aC (eOp gAdd (eOp gAdd (eV 1) (eC (.int 10))) (eOp gMul (eC (.int 5)) (eV 7))) (aC (eV 3) (aC (eV 4) (aC (eV 5) aN))))))))
def F_law_order : SF :=
  (sSeq (sSet 6 (eL aN))
  (sSeq (sFor (iEn (aC (eV 3) aN)) (gTp 2 (gAnd (gNm 7) (gAnd (gNm 8) gEnd))) B_law_order_1)
  (sSeq (sSet 9 (eL aN))
  (sSeq (sFor (iR1 (aC (eCall phi_law_draw (aC (eV 0) (aC (eOp gAdd (eV 1) (eC (.int 8))) (aC (eC (.int 6)) aN)))) aN)) (gNm 7) B_law_order_2)
  (sSeq (sSet 10 (eW (eIx (eB 3) (eCall phi_law_draw (aC (eV 0) (aC (eOp gAdd (eV 1) (eC (.int 9))) (aC (eB1 gLen (eB 3)) aN)))))))
  (sRet (eT (aC (eM 2) (aC (eM 6) (aC (eCat (eB 9) (eL (aC (eT (aC (eC (.str (PySem.Str.ofString "rest"))) (aC (eV 10) aN))) aN))) aN))))))))))
def phi_law_order : List D → Option T := runF 11 6 F_law_order
def B_law_free_1 : SF :=
  (sSeq (sIf (cT (eCmp eqQ (eIx (eB 6) (eC (.int 0))) (eC (.str (PySem.Str.ofString "share"))))) (sSet 2 (eCat (eB 2) (eList (eIx (eB 6) (eC (.int 1)))))) sNx)
  (sIf (cT (eCmp eqQ (eIx (eB 6) (eC (.int 0))) (eC (.str (PySem.Str.ofString "repay"))))) (sApp 2 (eW (eIx (eB 6) (eC (.int 1))))) sNx))
def B_law_free_2 : SF :=
  (sFor (iL (eV 5)) (gNm 6) B_law_free_1)
def F_law_free : SF :=
  (sSeq (sSet 2 (eL aN))
  (sSeq (sFor (iL (eV 0)) (gTp 3 (gAnd (gNm 3) (gAnd (gNm 4) (gAnd (gNm 5) gEnd)))) B_law_free_2)
  (sRet (eComp [7] (iL (eV 1)) (gNm 7) (cT (eCmp notInQ (eB 7) (eB 2))) (eV 7)))))
def phi_law_free : List D → Option T := runF 8 2 F_law_free
def B_law_pool_1 : SF :=
  (sApp 6 (eFz (eT (aC (eV 8) (aC (eCall phi_law_coins (aC (eV 0) (aC (eOp gAdd (eOp gAdd (eV 1) (eC (.int 20))) (eV 7)) aN))) (aC (eCall phi_law_coins (aC (eV 0) (aC (eOp gAdd (eOp gAdd (eV 1) (eC (.int 24))) (eV 7)) aN))) aN))))))
def B_law_pool_2 : SF :=
  (sApp 10 (eFz (eCall phi_law_order (aC (eV 0) (aC (eOp gAdd (eOp gAdd (eV 1) (eOp gMul (eC (.int 60)) (eV 7))) (eC (.int 30))) (aC (eV 11) (aC (eV 3) (aC (eV 4) (aC (eV 5) aN)))))))))
def B_law_pool_3 : SF :=
  (sSeq (sSet 8 (eW (eIx (eB 3) (eCall phi_law_draw (aC (eV 0) (aC (eOp gAdd (eOp gAdd (eV 1) (eC (.int 3))) (eV 7)) (aC (eB1 gLen (eB 3)) aN)))))))
  (sSeq (sSet 13 (eW (eIx (eB 9) (eCall phi_law_draw (aC (eV 0) (aC (eOp gAdd (eOp gAdd (eV 1) (eC (.int 5))) (eV 7)) (aC (eB1 gLen (eB 9)) aN)))))))
  (sApp 12 (eFz (eT (aC (eV 8) (aC (eOp gAdd (eC (.int 1)) (eCall phi_law_draw (aC (eV 0) (aC (eOp gAdd (eOp gAdd (eV 1) (eC (.int 7))) (eV 7)) (aC (eC (.int 3)) aN))))) (aC (eV 13) aN))))))))
def B_law_pool_4 : SF :=
  (sIf (cT (eCmp cGt (eB1 gLen (eB 4)) (eC (.int 0)))) (sApp 15 (eFz (eT (aC (eW (eIx (eB 4) (eCall phi_law_draw (aC (eV 0) (aC (eOp gAdd (eOp gAdd (eV 1) (eC (.int 11))) (eV 7)) (aC (eB1 gLen (eB 4)) aN)))))) (aC (eV 8) aN))))) sNx)
def F_law_pool : SF :=
  (sSeq (sSet 6 (eL aN))
  (sSeq (sFor (iEn (aC (eV 3) aN)) (gTp 2 (gAnd (gNm 7) (gAnd (gNm 8) gEnd))) B_law_pool_1)
  (sSeq (sSet 9 (eSl (eL (aC (eC (.str (PySem.Str.ofString "bb"))) (aC (eC (.str (PySem.Str.ofString "ck"))) (aC (eC (.str (PySem.Str.ofString "dd"))) aN)))) oN (oS (eOp gAdd (eC (.int 1)) (eCall phi_law_draw (aC (eV 0) (aC (eOp gAdd (eV 1) (eC (.int 1))) (aC (eC (.int 3)) aN))))))))
  (sSeq (sSet 10 (eL aN))
  (sSeq (sFor (iEn (aC (eV 9) aN)) (gTp 2 (gAnd (gNm 7) (gAnd (gNm 11) gEnd))) B_law_pool_2)
  (sSeq (sSet 12 (eL aN))
  (sSeq (sFor (iR1 (aC (eCall phi_law_draw (aC (eV 0) (aC (eOp gAdd (eV 1) (eC (.int 2))) (aC (eC (.int 3)) aN)))) aN)) (gNm 7) B_law_pool_3)
  (sSeq (sSet 14 (eFz (eCallB phi_law_free (aC (eB 10) (aC (eB 3) aN)))))
  (sSeq (sSet 15 (eL aN))
  (sSeq (sFor (iEn (aC (eFz (eSl (eB 14) oN (oS (eCall phi_law_draw (aC (eV 0) (aC (eOp gAdd (eV 1) (eC (.int 10))) (aC (eC (.int 4)) aN))))))) aN)) (gTp 2 (gAnd (gNm 7) (gAnd (gNm 8) gEnd))) B_law_pool_4)
  (sSeq (sSet 16 (eComp [7, 17] (iEn (aC (eV 4) aN)) (gTp 2 (gAnd (gNm 7) (gAnd (gNm 17) gEnd))) cYes (eT (aC (eV 17) (aC (eCall phi_law_coins (aC (eV 0) (aC (eOp gAdd (eOp gAdd (eV 1) (eC (.int 16))) (eV 7)) aN))) aN)))))
  (sRet (eT (aC (eM 2) (aC (eM 6) (aC (eM 16) (aC (eCall phi_law_some (aC (eV 0) (aC (eOp gAdd (eV 1) (eC (.int 13))) (aC (eV 3) aN)))) (aC (eM 10) (aC (eM 12) (aC (eM 15) aN))))))))))))))))))))
def phi_law_pool : List D → Option T := runF 18 6 F_law_pool
def B_law_deal_1 : SF :=
  (sSeq (sSet 6 (eSl (eB 2) (oS (eOp gAdd (eC (.int 3)) (eOp gMul (eC (.int 4)) (eV 5)))) (oS (eOp gAdd (eC (.int 7)) (eOp gMul (eC (.int 4)) (eV 5))))))
  (sSeq (sSet 7 (eSl (eB 6) oN (oS (eOp gAdd (eC (.int 1)) (eCall phi_law_draw (aC (eV 0) (aC (eOp gAdd (eC (.int 905)) (eV 5)) (aC (eC (.int 3)) aN))))))))
  (sSeq (sSet 8 (eSl (eL (aC (eW (eIx (eB 6) (eC (.int 3)))) (aC (eOp gAdd (eW (eIx (eB 6) (eC (.int 3)))) (eC (.str (PySem.Str.ofString "h")))) aN))) oN (oS (eCall phi_law_draw (aC (eV 0) (aC (eOp gAdd (eC (.int 910)) (eV 5)) (aC (eC (.int 3)) aN)))))))
  (sSeq (sSet 9 (eComp [10] (iL (eFz (eSl (eB 2) oN (oS (eV 3))))) (gNm 10) (cT (eCmp neQ (eB 10) (eIx (eB 2) (eV 5)))) (eV 10)))
  (sApp 4 (eFz (eCall phi_law_pool (aC (eV 0) (aC (eOp gMul (eC (.int 200)) (eV 5)) (aC (eW (eIx (eB 2) (eV 5))) (aC (eV 7) (aC (eV 8) (aC (eV 9) aN)))))))))))))
def F_law_deal : SF :=
  (sSeq (sSet 2 (eFz (eCall phi_law_names (aC (eV 0) aN))))
  (sSeq (sSet 3 (eOp gAdd (eC (.int 1)) (eCall phi_law_draw (aC (eV 0) (aC (eC (.int 904)) (aC (eV 1) aN))))))
  (sSeq (sSet 4 (eL aN))
  (sSeq (sFor (iR1 (aC (eV 3) aN)) (gNm 5) B_law_deal_1)
  (sRet (eM 4))))))
def phi_law_deal : List D → Option T := runF 11 2 F_law_deal
def B_law_book_1 : SF :=
  (sSeq (sSet 6 (eW (eIx (eL (aC (eC (.int 0)) (aC (eW (eIx (eB 5) (eC (.int 1)))) (aC (eCall phi_law_draw (aC (eV 0) (aC (eOp gAdd (eC (.int 700)) (eV 4)) (aC (eC (.int 30)) aN)))) aN)))) (eCall phi_law_draw (aC (eV 0) (aC (eOp gAdd (eC (.int 710)) (eV 4)) (aC (eC (.int 3)) aN)))))))
  (sSeq (sApp 2 (eFz (eT (aC (eW (eIx (eB 5) (eC (.int 0)))) (aC (eV 6) aN)))))
  (sApp 3 (eFz (eT (aC (eW (eIx (eB 5) (eC (.int 0)))) (aC (eOp gMul (eOp gMul (eW (eIx (eB 5) (eC (.int 2)))) (eCall phi_law_draw (aC (eV 0) (aC (eOp gAdd (eC (.int 720)) (eV 4)) (aC (eC (.int 4)) aN))))) (eI2 minI (aC (eC (.int 1)) (aC (eV 6) aN)))) aN)))))))
def B_law_book_2 : SF :=
  (sApp 7 (eFz (eT (aC (eW (eIx (eB 5) (eC (.int 0)))) (aC (eCall phi_law_draw (aC (eV 0) (aC (eOp gAdd (eC (.int 730)) (eV 4)) (aC (eC (.int 5)) aN)))) aN)))))
def F_law_book : SF :=
  (sSeq (sSet 2 (eL aN))
  (sSeq (sSet 3 (eL aN))
  (sSeq (sFor (iEn (aC (eW (eIx (eB 1) (eC (.int 1)))) aN)) (gTp 2 (gAnd (gNm 4) (gAnd (gNm 5) gEnd))) B_law_book_1)
  (sSeq (sSet 7 (eL aN))
  (sSeq (sFor (iEn (aC (eW (eIx (eB 1) (eC (.int 1)))) aN)) (gTp 2 (gAnd (gNm 4) (gAnd (gNm 5) gEnd))) B_law_book_2)
  (sSeq (sSet 8 (eComp [9, 10] (iL (eW (eIx (eB 1) (eC (.int 2))))) (gTp 2 (gAnd (gNm 9) (gAnd (gNm 10) gEnd))) cYes (eT (aC (eV 9) (aC (eOp gMod (eCall phi_law_draw (aC (eV 0) (aC (eC (.int 740)) (aC (eC (.int 1000)) aN)))) (eOp gAdd (eV 10) (eC (.int 1)))) aN)))))
  (sRet (eT (aC (eM 2) (aC (eM 3) (aC (eM 7) (aC (eM 8) (aC (eCall phi_law_draw (aC (eV 0) (aC (eC (.int 741)) (aC (eC (.int 100)) aN)))) aN)))))))))))))
def phi_law_book : List D → Option T := runF 11 2 F_law_book
def F_law_whole : SF :=
  (sRet (eAnd (eIsi "int" (eB 0)) (eNot (eIsi "bool" (eB 0)))))
def phi_law_whole : List D → Option T := runF 1 1 F_law_whole
def F_law_plain (φ : List D → Option T) : SF :=
  (sSeq (sIf (cT (eIsi2 "list" "tuple" (eB 0))) (sRet (eB1 gAll (eComp [1] (iSq (eV 0)) (gNm 1) cYes (eCall φ (aC (eV 1) aN))))) sNx)
  (sRet (eOr (eIsi "str" (eB 0)) (eCall phi_law_whole (aC (eV 0) aN)))))
def phi_law_plain : Nat → List D → Option T
  | 0 => fun _ => none
  | n + 1 => runF 2 1 (F_law_plain (phi_law_plain n))
def B_law_due_1 : SF :=
  (sIf (cAnd (cT (eCmp eqQ (eB 5) (eB 2))) (cT (eCmp cGe (eB 6) (eB 3)))) (sRet (eM 4)) sNx)
def B_law_due_2 : SF :=
  (sFor (iL (eW (eIx (eB 1) (eC (.int 2))))) (gTp 2 (gAnd (gNm 5) (gAnd (gNm 6) gEnd))) B_law_due_1)
def F_law_due : SF :=
  (sSeq (sFor (iL (eW (eIx (eB 0) (eC (.int 5))))) (gTp 3 (gAnd (gNm 2) (gAnd (gNm 3) (gAnd (gNm 4) gEnd)))) B_law_due_2)
  (sRet (eW (eIx (eIx (eIx (eB 0) (eC (.int 4))) (eC (.int 0))) (eC (.int 0))))))
def phi_law_due : List D → Option T := runF 7 2 F_law_due
def B_law_1 : SF :=
  (sSeq (sSet 7 (eComp [8] (iL (eW (eIx (eB 6) (eC (.int 1))))) (gNm 8) cYes (eT (aC (eW (eIx (eB 8) (eC (.int 0)))) (aC (eC (.int 0)) aN)))))
  (sSeq (sSet 9 (eComp [8] (iL (eW (eIx (eB 6) (eC (.int 1))))) (gNm 8) cYes (eT (aC (eW (eIx (eB 8) (eC (.int 0)))) (aC (eW (eIx (eB 8) (eC (.int 1)))) aN)))))
  (sApp 5 (eFz (eT (aC (eV 9) (aC (eV 7) (aC (eList (eB 7)) (aC (eComp [10] (iL (eW (eIx (eB 6) (eC (.int 2))))) (gNm 10) cYes (eT (aC (eW (eIx (eB 10) (eC (.int 0)))) (aC (eC (.int 0)) aN)))) (aC (eC (.int 0)) aN))))))))))
def F_law : SF :=
  (sSeq (sSet 1 (eFz (eCall phi_law_deal (aC (eV 0) (aC (eC (.int 3)) aN)))))
  (sSeq (sSet 2 (eW (eIx (eB 1) (eC (.int 0)))))
  (sSeq (sSet 3 (eFz (eCall phi_law_book (aC (eV 0) (aC (eV 2) aN)))))
  (sSeq (sSet 4 (eFz (eCall phi_order_now (aC (eV 2) (aC (eV 3) aN)))))
  (sSeq (sIf (cOr (cNot (cT (eIsi "str" (eB 4)))) (cOr (cT (eCmp neQ (eB 4) (eCall phi_law_due (aC (eV 2) (aC (eV 3) aN))))) (cT (eCmp neQ (eB 3) (eCall phi_law_book (aC (eV 0) (aC (eV 2) aN))))))) (sRet (eC (.bl false))) sNx)
  (sSeq (sSet 5 (eL aN))
  (sSeq (sFor (iL (eV 1)) (gNm 6) B_law_1)
  (sSeq (sSet 11 (eFz (eCall phi_begun (aC (eV 1) aN))))
  (sSeq (sIf (cOr (cNot (cT (eIsi "tuple" (eB 11)))) (cOr (cNot (cT (eCall (phi_law_plain 8) (aC (eV 11) aN)))) (cT (eCmp neQ (eB 1) (eCall phi_law_deal (aC (eV 0) (aC (eC (.int 3)) aN))))))) (sRet (eC (.bl false))) sNx)
  (sRet (eCmp eqQ (eB 11) (eT (aC (eV 5) (aC (eL aN) (aC (eComp [6] (iL (eV 1)) (gNm 6) cYes (eC (.int 0))) aN)))))))))))))))
def phi_law : List D → Option T := runF 12 1 F_law
end

end K30

set_option Elab.async false
set_option linter.all false
set_option maxRecDepth 100000
set_option maxHeartbeats 4000000
namespace K30
open PySem PySem.Spec PyProof.Rows L2 DL
def topS (i : Nat) : Stmt := PySem.Challenge.pw_tranchefall_k30_looks_turn_the_order.main.body.getD i (.Pass ⟨0, 0, 0, 0⟩)
abbrev s_book_begun : Stmt := topS 1
abbrev N_book_begun : List Str := ["pool", "sizes", "claim", "size", "due", "owed", "runs", "levels", "pot", "mark"]
theorem sc_book_begun : FnScope N_book_begun ["pool"] (defScope s_book_begun) := ⟨rfl, rfl, rfl, by decide +kernel, rfl, by decide +kernel, by decide +kernel⟩
abbrev s_begun : Stmt := topS 2
abbrev N_begun : List Str := ["deal", "pool"]
theorem sc_begun : FnScope N_begun ["deal"] (defScope s_begun) := ⟨rfl, rfl, rfl, by decide +kernel, rfl, by decide +kernel, by decide +kernel⟩
abbrev s_order_now : Stmt := topS 3
abbrev N_order_now : List Str := ["pool", "book", "runs", "claim", "days", "order"]
theorem sc_order_now : FnScope N_order_now ["pool", "book"] (defScope s_order_now) := ⟨rfl, rfl, rfl, by decide +kernel, rfl, by decide +kernel, by decide +kernel⟩
abbrev s_law_draw : Stmt := topS 5
abbrev N_law_draw : List Str := ["_law_script", "_law_k", "_law_many", "_law_cell", "_law_number"]
theorem sc_law_draw : FnScope N_law_draw ["_law_script", "_law_k", "_law_many"] (defScope s_law_draw) := ⟨rfl, rfl, rfl, by decide +kernel, rfl, by decide +kernel, by decide +kernel⟩
abbrev s_law_coins : Stmt := topS 6
abbrev N_law_coins : List Str := ["_law_script", "_law_k", "_law_cell"]
theorem sc_law_coins : FnScope N_law_coins ["_law_script", "_law_k"] (defScope s_law_coins) := ⟨rfl, rfl, rfl, by decide +kernel, rfl, by decide +kernel, by decide +kernel⟩
abbrev s_law_names : Stmt := topS 7
abbrev N_law_names : List Str := ["_law_script", "_law_letters", "_law_ahead", "_law_behind", "_law_first", "_law_k"]
theorem sc_law_names : FnScope N_law_names ["_law_script"] (defScope s_law_names) := ⟨rfl, rfl, rfl, by decide +kernel, rfl, by decide +kernel, by decide +kernel⟩
abbrev s_law_some : Stmt := topS 8
abbrev N_law_some : List Str := ["_law_script", "_law_k", "_law_names_here", "_law_row", "_law_at", "_law_x"]
theorem sc_law_some : FnScope N_law_some ["_law_script", "_law_k", "_law_names_here"] (defScope s_law_some) := ⟨rfl, rfl, rfl, by decide +kernel, rfl, by decide +kernel, by decide +kernel⟩
abbrev s_law_rule : Stmt := topS 9
abbrev N_law_rule : List Str := ["_law_script", "_law_k", "_law_claims", "_law_pots", "_law_others", "_law_kind", "_law_claim", "_law_other"]
theorem sc_law_rule : FnScope N_law_rule ["_law_script", "_law_k", "_law_claims", "_law_pots", "_law_others"] (defScope s_law_rule) := ⟨rfl, rfl, rfl, by decide +kernel, rfl, by decide +kernel, by decide +kernel⟩
abbrev s_law_order : Stmt := topS 10
abbrev N_law_order : List Str := ["_law_script", "_law_k", "_law_name", "_law_claims", "_law_pots", "_law_others", "_law_parts", "_law_at", "_law_claim", "_law_rules", "_law_last"]
theorem sc_law_order : FnScope N_law_order ["_law_script", "_law_k", "_law_name", "_law_claims", "_law_pots", "_law_others"] (defScope s_law_order) := ⟨rfl, rfl, rfl, by decide +kernel, rfl, by decide +kernel, by decide +kernel⟩
abbrev s_law_free : Stmt := topS 11
abbrev N_law_free : List Str := ["_law_orders", "_law_claims", "_law_held", "_law_name", "_law_parts", "_law_rules", "_law_rule_here", "_law_claim"]
theorem sc_law_free : FnScope N_law_free ["_law_orders", "_law_claims"] (defScope s_law_free) := ⟨rfl, rfl, rfl, by decide +kernel, rfl, by decide +kernel, by decide +kernel⟩
abbrev s_law_pool : Stmt := topS 12
abbrev N_law_pool : List Str := ["_law_script", "_law_k", "_law_name", "_law_claims", "_law_pots", "_law_others", "_law_told", "_law_at", "_law_claim", "_law_names_here", "_law_orders", "_law_x", "_law_looks", "_law_order_here", "_law_free_here", "_law_guards", "_law_marks", "_law_pot"]
theorem sc_law_pool : FnScope N_law_pool ["_law_script", "_law_k", "_law_name", "_law_claims", "_law_pots", "_law_others"] (defScope s_law_pool) := ⟨rfl, rfl, rfl, by decide +kernel, rfl, by decide +kernel, by decide +kernel⟩
abbrev s_law_deal : Stmt := topS 13
abbrev N_law_deal : List Str := ["_law_script", "_law_most", "_law_names_here", "_law_many", "_law_deal_here", "_law_k", "_law_mine", "_law_claims", "_law_pots", "_law_others", "_law_x"]
theorem sc_law_deal : FnScope N_law_deal ["_law_script", "_law_most"] (defScope s_law_deal) := ⟨rfl, rfl, rfl, by decide +kernel, rfl, by decide +kernel, by decide +kernel⟩
abbrev s_law_book : Stmt := topS 14
abbrev N_law_book : List Str := ["_law_script", "_law_pool_here", "_law_sizes", "_law_owed", "_law_k", "_law_claim", "_law_size", "_law_runs", "_law_levels", "_law_pot", "_law_mark"]
theorem sc_law_book : FnScope N_law_book ["_law_script", "_law_pool_here"] (defScope s_law_book) := ⟨rfl, rfl, rfl, by decide +kernel, rfl, by decide +kernel, by decide +kernel⟩
abbrev s_law_whole : Stmt := topS 15
abbrev N_law_whole : List Str := ["_law_found"]
theorem sc_law_whole : FnScope N_law_whole ["_law_found"] (defScope s_law_whole) := ⟨rfl, rfl, rfl, by decide +kernel, rfl, by decide +kernel, by decide +kernel⟩
abbrev s_law_plain : Stmt := topS 16
abbrev N_law_plain : List Str := ["_law_thing", "_law_one"]
theorem sc_law_plain : FnScope N_law_plain ["_law_thing"] (defScope s_law_plain) := ⟨rfl, rfl, rfl, by decide +kernel, rfl, by decide +kernel, by decide +kernel⟩
abbrev s_law_due : Stmt := topS 17
abbrev N_law_due : List Str := ["_law_pool_here", "_law_book_here", "_law_claim", "_law_days", "_law_order_here", "_law_name", "_law_run"]
theorem sc_law_due : FnScope N_law_due ["_law_pool_here", "_law_book_here"] (defScope s_law_due) := ⟨rfl, rfl, rfl, by decide +kernel, rfl, by decide +kernel, by decide +kernel⟩
abbrev s_law : Stmt := topS 18
abbrev N_law : List Str := ["_law_script", "_law_deal_here", "_law_pool_here", "_law_book_here", "_law_found", "_law_books", "_law_one", "_law_noughts", "_law_claim", "_law_sizes", "_law_pot", "_law_state"]
theorem sc_law : FnScope N_law ["_law_script"] (defScope s_law) := ⟨rfl, rfl, rfl, by decide +kernel, rfl, by decide +kernel, by decide +kernel⟩
structure Txt (K : PySem.W.Frag) (mg : Str → Option Value) (f_book_begun f_begun f_order_now f_law_draw f_law_coins f_law_names f_law_some f_law_rule f_law_order f_law_free f_law_pool f_law_deal f_law_book f_law_whole f_law_plain f_law_due f_law : Addr) (d_book_begun d_begun d_order_now d_law_draw d_law_coins d_law_names d_law_some d_law_rule d_law_order d_law_free d_law_pool d_law_deal d_law_book d_law_whole d_law_plain d_law_due d_law : FuncData) : Prop where
  F_book_begun : Fun K "book_begun" "book_begun" s_book_begun f_book_begun d_book_begun
  b_book_begun : Binds K d_book_begun ["pool"] []
  g_book_begun : mg "book_begun" = some (.ref f_book_begun)
  F_begun : Fun K "begun" "begun" s_begun f_begun d_begun
  b_begun : Binds K d_begun ["deal"] []
  g_begun : mg "begun" = some (.ref f_begun)
  F_order_now : Fun K "order_now" "order_now" s_order_now f_order_now d_order_now
  b_order_now : Binds K d_order_now ["pool", "book"] []
  g_order_now : mg "order_now" = some (.ref f_order_now)
  F_law_draw : Fun K "_law_draw" "_law_draw" s_law_draw f_law_draw d_law_draw
  b_law_draw : Binds K d_law_draw ["_law_script", "_law_k", "_law_many"] []
  g_law_draw : mg "_law_draw" = some (.ref f_law_draw)
  F_law_coins : Fun K "_law_coins" "_law_coins" s_law_coins f_law_coins d_law_coins
  b_law_coins : Binds K d_law_coins ["_law_script", "_law_k"] []
  g_law_coins : mg "_law_coins" = some (.ref f_law_coins)
  F_law_names : Fun K "_law_names" "_law_names" s_law_names f_law_names d_law_names
  b_law_names : Binds K d_law_names ["_law_script"] []
  g_law_names : mg "_law_names" = some (.ref f_law_names)
  F_law_some : Fun K "_law_some" "_law_some" s_law_some f_law_some d_law_some
  b_law_some : Binds K d_law_some ["_law_script", "_law_k", "_law_names_here"] []
  g_law_some : mg "_law_some" = some (.ref f_law_some)
  F_law_rule : Fun K "_law_rule" "_law_rule" s_law_rule f_law_rule d_law_rule
  b_law_rule : Binds K d_law_rule ["_law_script", "_law_k", "_law_claims", "_law_pots", "_law_others"] []
  g_law_rule : mg "_law_rule" = some (.ref f_law_rule)
  F_law_order : Fun K "_law_order" "_law_order" s_law_order f_law_order d_law_order
  b_law_order : Binds K d_law_order ["_law_script", "_law_k", "_law_name", "_law_claims", "_law_pots", "_law_others"] []
  g_law_order : mg "_law_order" = some (.ref f_law_order)
  F_law_free : Fun K "_law_free" "_law_free" s_law_free f_law_free d_law_free
  b_law_free : Binds K d_law_free ["_law_orders", "_law_claims"] []
  g_law_free : mg "_law_free" = some (.ref f_law_free)
  F_law_pool : Fun K "_law_pool" "_law_pool" s_law_pool f_law_pool d_law_pool
  b_law_pool : Binds K d_law_pool ["_law_script", "_law_k", "_law_name", "_law_claims", "_law_pots", "_law_others"] []
  g_law_pool : mg "_law_pool" = some (.ref f_law_pool)
  F_law_deal : Fun K "_law_deal" "_law_deal" s_law_deal f_law_deal d_law_deal
  b_law_deal : Binds K d_law_deal ["_law_script", "_law_most"] []
  g_law_deal : mg "_law_deal" = some (.ref f_law_deal)
  F_law_book : Fun K "_law_book" "_law_book" s_law_book f_law_book d_law_book
  b_law_book : Binds K d_law_book ["_law_script", "_law_pool_here"] []
  g_law_book : mg "_law_book" = some (.ref f_law_book)
  F_law_whole : Fun K "_law_whole" "_law_whole" s_law_whole f_law_whole d_law_whole
  b_law_whole : Binds K d_law_whole ["_law_found"] []
  g_law_whole : mg "_law_whole" = some (.ref f_law_whole)
  F_law_plain : Fun K "_law_plain" "_law_plain" s_law_plain f_law_plain d_law_plain
  b_law_plain : Binds K d_law_plain ["_law_thing"] []
  g_law_plain : mg "_law_plain" = some (.ref f_law_plain)
  F_law_due : Fun K "_law_due" "_law_due" s_law_due f_law_due d_law_due
  b_law_due : Binds K d_law_due ["_law_pool_here", "_law_book_here"] []
  g_law_due : mg "_law_due" = some (.ref f_law_due)
  F_law : Fun K "law" "law" s_law f_law d_law
  b_law : Binds K d_law ["_law_script"] []
  g_law : mg "law" = some (.ref f_law)
  m_dict : mg "dict" = none
  m_len : mg "len" = none
  m_range : mg "range" = none
  m_enumerate : mg "enumerate" = none
  m_tuple : mg "tuple" = none
  m_list : mg "list" = none
  m_min : mg "min" = none
  m_isinstance : mg "isinstance" = none
  m_bool : mg "bool" = none
  m_int : mg "int" = none
  m_all : mg "all" = none
  m_str : mg "str" = none
section
variable {P : Program} {w : World} {K : PySem.W.Frag} {mg : Str → Option Value} {base : Heap} {f_book_begun f_begun f_order_now f_law_draw f_law_coins f_law_names f_law_some f_law_rule f_law_order f_law_free f_law_pool f_law_deal f_law_book f_law_whole f_law_plain f_law_due f_law : Addr} {d_book_begun d_begun d_order_now d_law_draw d_law_coins d_law_names d_law_some d_law_rule d_law_order d_law_free d_law_pool d_law_deal d_law_book d_law_whole d_law_plain d_law_due d_law : FuncData}
theorem ok_book_begun (T : Txt K mg f_book_begun f_begun f_order_now f_law_draw f_law_coins f_law_names f_law_some f_law_rule f_law_order f_law_free f_law_pool f_law_deal f_law_book f_law_whole f_law_plain f_law_due f_law d_book_begun d_begun d_order_now d_law_draw d_law_coins d_law_names d_law_some d_law_rule d_law_order d_law_free d_law_pool d_law_deal d_law_book d_law_whole d_law_plain d_law_due d_law) : FnOk P w K mg base CX0 1 f_book_begun d_book_begun ["pool"] (spD 1 phi_book_begun K) := by
  have nd : N_book_begun.Nodup := sc_book_begun.nd
  exact okD (Fb := F_book_begun) T.F_book_begun sc_book_begun rfl rfl fun cdv A outer s H E hr => have hu := hu_of hr; ⟨_, _,
    (dss_cons (ds_setLc (i := 1) (own := [("claim", 2), ("size", 3), ("due", 4)]) rfl nd rfl rfl (sw_true rfl rfl rfl (by decide +kernel)) (di_list (DV.dt (dv_ix (dv_v 0) dt_int))) (blkOk_by (own := [("claim", 2), ("size", 3), ("due", 4)]) (N := N_book_begun) (sc := defScope s_book_begun) (by decide +kernel)) (fun _ _ _ _ _ => (dg_tup rfl (dgs_cons (dg_name (i := 2) nd rfl (by first | exact Or.inl rfl | exact Or.inr rfl)) (dgs_cons (dg_name (i := 3) nd rfl (by first | exact Or.inl rfl | exact Or.inr rfl)) (dgs_cons (dg_name (i := 4) nd rfl (by first | exact Or.inl rfl | exact Or.inr rfl)) dgs_nil))))) (fun _ _ _ _ _ => dts_nil) (fun _ _ _ _ _ => (dt_tup (da_cons (dt_v 2) (da_cons (dt_v 3) da_nil)))) (by decide))
      (dss_cons (ds_setLc (i := 5) (own := [("claim", 2), ("size", 3), ("due", 4)]) rfl nd rfl rfl (sw_true rfl rfl rfl (by decide +kernel)) (di_list (DV.dt (dv_ix (dv_v 0) dt_int))) (blkOk_by (own := [("claim", 2), ("size", 3), ("due", 4)]) (N := N_book_begun) (sc := defScope s_book_begun) (by decide +kernel)) (fun _ _ _ _ _ => (dg_tup rfl (dgs_cons (dg_name (i := 2) nd rfl (by first | exact Or.inl rfl | exact Or.inr rfl)) (dgs_cons (dg_name (i := 3) nd rfl (by first | exact Or.inl rfl | exact Or.inr rfl)) (dgs_cons (dg_name (i := 4) nd rfl (by first | exact Or.inl rfl | exact Or.inr rfl)) dgs_nil))))) (fun _ _ _ _ _ => dts_nil) (fun _ _ _ _ _ => (dt_tup (da_cons (dt_v 2) (da_cons dt_int da_nil)))) (by decide))
      (dss_cons (ds_setLc (i := 6) (own := [("claim", 2), ("size", 3), ("due", 4)]) rfl nd rfl rfl (sw_true rfl rfl rfl (by decide +kernel)) (di_list (DV.dt (dv_ix (dv_v 0) dt_int))) (blkOk_by (own := [("claim", 2), ("size", 3), ("due", 4)]) (N := N_book_begun) (sc := defScope s_book_begun) (by decide +kernel)) (fun _ _ _ _ _ => (dg_tup rfl (dgs_cons (dg_name (i := 2) nd rfl (by first | exact Or.inl rfl | exact Or.inr rfl)) (dgs_cons (dg_name (i := 3) nd rfl (by first | exact Or.inl rfl | exact Or.inr rfl)) (dgs_cons (dg_name (i := 4) nd rfl (by first | exact Or.inl rfl | exact Or.inr rfl)) dgs_nil))))) (fun _ _ _ _ _ => dts_nil) (fun _ _ _ _ _ => (dt_tup (da_cons (dt_v 2) (da_cons dt_int da_nil)))) (by decide))
      (dss_cons (ds_setLc (i := 7) (own := [("pot", 8), ("mark", 9)]) rfl nd rfl rfl (sw_true rfl rfl rfl (by decide +kernel)) (di_list (DV.dt (dv_ix (dv_v 0) dt_int))) (blkOk_by (own := [("pot", 8), ("mark", 9)]) (N := N_book_begun) (sc := defScope s_book_begun) (by decide +kernel)) (fun _ _ _ _ _ => (dg_tup rfl (dgs_cons (dg_name (i := 8) nd rfl (by first | exact Or.inl rfl | exact Or.inr rfl)) (dgs_cons (dg_name (i := 9) nd rfl (by first | exact Or.inl rfl | exact Or.inr rfl)) dgs_nil)))) (fun _ _ _ _ _ => dts_nil) (fun _ _ _ _ _ => (dt_tup (da_cons (dt_v 8) (da_cons dt_int da_nil)))) (by decide))
      (dss_one (ds_ret (dt_tup (da_cons (dt_m 1) (da_cons (dt_m 5) (da_cons (dt_m 6) (da_cons (dt_m 7) (da_cons dt_int da_nil))))))))))))⟩
theorem ok_begun (T : Txt K mg f_book_begun f_begun f_order_now f_law_draw f_law_coins f_law_names f_law_some f_law_rule f_law_order f_law_free f_law_pool f_law_deal f_law_book f_law_whole f_law_plain f_law_due f_law d_book_begun d_begun d_order_now d_law_draw d_law_coins d_law_names d_law_some d_law_rule d_law_order d_law_free d_law_pool d_law_deal d_law_book d_law_whole d_law_plain d_law_due d_law) : FnOk P w K mg base CX0 2 f_begun d_begun ["deal"] (spD 1 phi_begun K) := by
  have nd : N_begun.Nodup := sc_begun.nd
  exact okD (Fb := F_begun) T.F_begun sc_begun rfl rfl fun cdv A outer s H E hr => have hu := hu_of hr; ⟨_, _,
    (dss_one (ds_ret (dt_tup (da_cons (dt_comp (own := [("pool", 1)]) rfl nd (di_list (dt_v 0)) (blkOk_by (own := [("pool", 1)]) (N := N_begun) (sc := defScope s_begun) (by decide +kernel)) (fun _ _ _ _ _ => (dg_name (i := 1) nd rfl (by first | exact Or.inl rfl | exact Or.inr rfl))) (fun _ _ _ _ _ => dts_nil) (fun _ _ _ _ _ => (dt_call (n := 1) (φ := phi_book_begun) (fun _ _ h => runF_len h) (ok_book_begun T) (hr.mono (by decide)) (by rfl) T.g_book_begun T.F_book_begun.kp T.b_book_begun (da_cons (dt_v 1) da_nil))) (by decide)) (da_cons (dt_lst da_nil) (da_cons (dt_comp (own := [("pool", 1)]) rfl nd (di_list (dt_v 0)) (blkOk_by (own := [("pool", 1)]) (N := N_begun) (sc := defScope s_begun) (by decide +kernel)) (fun _ _ _ _ _ => (dg_name (i := 1) nd rfl (by first | exact Or.inl rfl | exact Or.inr rfl))) (fun _ _ _ _ _ => dts_nil) (fun _ _ _ _ _ => dt_int) (by decide)) da_nil))))))⟩
theorem ok_order_now (T : Txt K mg f_book_begun f_begun f_order_now f_law_draw f_law_coins f_law_names f_law_some f_law_rule f_law_order f_law_free f_law_pool f_law_deal f_law_book f_law_whole f_law_plain f_law_due f_law d_book_begun d_begun d_order_now d_law_draw d_law_coins d_law_names d_law_some d_law_rule d_law_order d_law_free d_law_pool d_law_deal d_law_book d_law_whole d_law_plain d_law_due d_law) : FnOk P w K mg base CX0 1 f_order_now d_order_now ["pool", "book"] (spD 2 phi_order_now K) := by
  have nd : N_order_now.Nodup := sc_order_now.nd
  exact okD (Fb := F_order_now) T.F_order_now sc_order_now rfl rfl fun cdv A outer s H E hr => have hu := hu_of hr; ⟨_, _,
    (dss_cons (ds_set (i := 2) nd rfl (by first | exact Or.inl rfl | exact Or.inr rfl) (dt_fz (dt_dictP rfl (by rfl) T.m_dict (dv_ix (dv_v 1) dt_int))))
      (dss_cons (ds_for PassesOwn.never rfl (di_list (DV.dt (dv_ix (dv_v 0) dt_int))) (dg_tup rfl (dgs_cons (dg_name (i := 3) nd rfl (by first | exact Or.inl rfl | exact Or.inr rfl)) (dgs_cons (dg_name (i := 4) nd rfl (by first | exact Or.inl rfl | exact Or.inr rfl)) (dgs_cons (dg_name (i := 5) nd rfl (by first | exact Or.inl rfl | exact Or.inr rfl)) dgs_nil)))) (dss_one (ds_if (dc_ge (DT.dv (dt_dix hu (dv_v 2) (dt_v 3))) (dv_v 4)) (dss_one (ds_ret (dt_m 5))) dss_nil)))
      (dss_one (ds_ret (DV.dt (dv_ix (dv_ix (dv_ix (dv_v 0) dt_int) dt_int) dt_int))))))⟩
theorem ok_law_draw (T : Txt K mg f_book_begun f_begun f_order_now f_law_draw f_law_coins f_law_names f_law_some f_law_rule f_law_order f_law_free f_law_pool f_law_deal f_law_book f_law_whole f_law_plain f_law_due f_law d_book_begun d_begun d_order_now d_law_draw d_law_coins d_law_names d_law_some d_law_rule d_law_order d_law_free d_law_pool d_law_deal d_law_book d_law_whole d_law_plain d_law_due d_law) : FnOk P w K mg base CX0 1 f_law_draw d_law_draw ["_law_script", "_law_k", "_law_many"] (spD 3 phi_law_draw K) := by
  have nd : N_law_draw.Nodup := sc_law_draw.nd
  exact okD (Fb := F_law_draw) T.F_law_draw sc_law_draw rfl rfl fun cdv A outer s H E hr => have hu := hu_of hr; ⟨_, _,
    (dss_cons (ds_set (i := 3) nd rfl (by first | exact Or.inl rfl | exact Or.inr rfl) dt_int)
      (dss_cons (ds_if (dc_gt (DT.dv (dt_len (by rfl) T.m_len (dv_v 0))) (DT.dv dt_int)) (dss_one (ds_set (i := 3) nd rfl (by first | exact Or.inl rfl | exact Or.inr rfl) (DV.dt (dv_ix (dv_v 0) (dt_mod (dt_v 1) (dt_len (by rfl) T.m_len (dv_v 0))))))) dss_nil)
      (dss_cons (ds_set (i := 4) nd rfl (by first | exact Or.inl rfl | exact Or.inr rfl) (dt_mod (dt_mul (dt_add (dt_add (dt_mod (dt_v 3) dt_int) (dt_mul dt_int (dt_v 1))) dt_int) (dt_add dt_int (dt_mul (dt_mul dt_int (dt_v 1)) (dt_v 1)))) dt_int))
      (dss_one (ds_ret (dt_mod (dt_div (dt_v 4) dt_int) (dt_v 2)))))))⟩
theorem ok_law_coins (T : Txt K mg f_book_begun f_begun f_order_now f_law_draw f_law_coins f_law_names f_law_some f_law_rule f_law_order f_law_free f_law_pool f_law_deal f_law_book f_law_whole f_law_plain f_law_due f_law d_book_begun d_begun d_order_now d_law_draw d_law_coins d_law_names d_law_some d_law_rule d_law_order d_law_free d_law_pool d_law_deal d_law_book d_law_whole d_law_plain d_law_due d_law) : FnOk P w K mg base CX0 2 f_law_coins d_law_coins ["_law_script", "_law_k"] (spD 2 phi_law_coins K) := by
  have nd : N_law_coins.Nodup := sc_law_coins.nd
  exact okD (Fb := F_law_coins) T.F_law_coins sc_law_coins rfl rfl fun cdv A outer s H E hr => have hu := hu_of hr; ⟨_, _,
    (dss_cons (ds_set (i := 2) nd rfl (by first | exact Or.inl rfl | exact Or.inr rfl) dt_int)
      (dss_cons (ds_if (dc_gt (DT.dv (dt_len (by rfl) T.m_len (dv_v 0))) (DT.dv dt_int)) (dss_one (ds_set (i := 2) nd rfl (by first | exact Or.inl rfl | exact Or.inr rfl) (DV.dt (dv_ix (dv_v 0) (dt_mod (dt_v 1) (dt_len (by rfl) T.m_len (dv_v 0))))))) dss_nil)
      (dss_cons (ds_if (dc_gt (DT.dv (dt_call (n := 3) (φ := phi_law_draw) (fun _ _ h => runF_len h) (ok_law_draw T) (hr.mono (by decide)) (by rfl) T.g_law_draw T.F_law_draw.kp T.b_law_draw (da_cons (dt_v 0) (da_cons dt_int (da_cons dt_int da_nil))))) (DT.dv dt_int)) (dss_one (ds_ret (dt_add dt_int (dt_call (n := 3) (φ := phi_law_draw) (fun _ _ h => runF_len h) (ok_law_draw T) (hr.mono (by decide)) (by rfl) T.g_law_draw T.F_law_draw.kp T.b_law_draw (da_cons (dt_v 0) (da_cons (dt_v 1) (da_cons dt_int da_nil))))))) dss_nil)
      (dss_one (ds_ret (dt_add dt_int (dt_mod (dt_mul (dt_add (dt_add (dt_mod (dt_v 2) (dt_pow dt_int dt_int)) (dt_mul (dt_v 1) (dt_v 1))) dt_int) (dt_pow dt_int dt_int)) (dt_pow dt_int dt_int))))))))⟩
theorem ok_law_names (T : Txt K mg f_book_begun f_begun f_order_now f_law_draw f_law_coins f_law_names f_law_some f_law_rule f_law_order f_law_free f_law_pool f_law_deal f_law_book f_law_whole f_law_plain f_law_due f_law d_book_begun d_begun d_order_now d_law_draw d_law_coins d_law_names d_law_some d_law_rule d_law_order d_law_free d_law_pool d_law_deal d_law_book d_law_whole d_law_plain d_law_due d_law) : FnOk P w K mg base CX0 2 f_law_names d_law_names ["_law_script"] (spD 1 phi_law_names K) := by
  have nd : N_law_names.Nodup := sc_law_names.nd
  exact okD (Fb := F_law_names) T.F_law_names sc_law_names rfl rfl fun cdv A outer s H E hr => have hu := hu_of hr; ⟨_, _,
    (dss_cons (ds_set (i := 1) nd rfl (by first | exact Or.inl rfl | exact Or.inr rfl) dt_str)
      (dss_cons (ds_set (i := 2) nd rfl (by first | exact Or.inl rfl | exact Or.inr rfl) (dt_mulA dt_str (dt_call (n := 3) (φ := phi_law_draw) (fun _ _ h => runF_len h) (ok_law_draw T) (hr.mono (by decide)) (by rfl) T.g_law_draw T.F_law_draw.kp T.b_law_draw (da_cons (dt_v 0) (da_cons dt_int (da_cons dt_int da_nil))))))
      (dss_cons (ds_set (i := 3) nd rfl (by first | exact Or.inl rfl | exact Or.inr rfl) (dt_sl (DT.dv dt_str) do_none (do_some (dt_call (n := 3) (φ := phi_law_draw) (fun _ _ h => runF_len h) (ok_law_draw T) (hr.mono (by decide)) (by rfl) T.g_law_draw T.F_law_draw.kp T.b_law_draw (da_cons (dt_v 0) (da_cons dt_int (da_cons dt_int da_nil)))))))
      (dss_cons (ds_set (i := 4) nd rfl (by first | exact Or.inl rfl | exact Or.inr rfl) (dt_fz (dt_call (n := 3) (φ := phi_law_draw) (fun _ _ h => runF_len h) (ok_law_draw T) (hr.mono (by decide)) (by rfl) T.g_law_draw T.F_law_draw.kp T.b_law_draw (da_cons (dt_v 0) (da_cons dt_int (da_cons dt_int da_nil))))))
      (dss_one (ds_ret (dt_comp (own := [("_law_k", 5)]) rfl nd (di_range1 (by rfl) T.m_range (da_cons dt_int da_nil)) (blkOk_by (own := [("_law_k", 5)]) (N := N_law_names) (sc := defScope s_law_names) (by decide +kernel)) (fun _ _ _ _ _ => (dg_name (i := 5) nd rfl (by first | exact Or.inl rfl | exact Or.inr rfl))) (fun _ _ _ _ _ => dts_nil) (fun _ _ _ _ _ => (dt_add (dt_add (dt_v 2) (DV.dt (dv_ix (dv_v 1) (dt_mod (dt_add (dt_v 4) (dt_v 5)) dt_int)))) (dt_v 3))) (by decide))))))))⟩
theorem ok_law_some (T : Txt K mg f_book_begun f_begun f_order_now f_law_draw f_law_coins f_law_names f_law_some f_law_rule f_law_order f_law_free f_law_pool f_law_deal f_law_book f_law_whole f_law_plain f_law_due f_law d_book_begun d_begun d_order_now d_law_draw d_law_coins d_law_names d_law_some d_law_rule d_law_order d_law_free d_law_pool d_law_deal d_law_book d_law_whole d_law_plain d_law_due d_law) : FnOk P w K mg base CX0 2 f_law_some d_law_some ["_law_script", "_law_k", "_law_names_here"] (spD 3 phi_law_some K) := by
  have nd : N_law_some.Nodup := sc_law_some.nd
  exact okD (Fb := F_law_some) T.F_law_some sc_law_some rfl rfl fun cdv A outer s H E hr => have hu := hu_of hr; ⟨_, _,
    (dss_cons (ds_set (i := 3) nd rfl (by first | exact Or.inl rfl | exact Or.inr rfl) (dt_lst da_nil))
      (dss_cons (ds_for PassesOwn.never rfl (di_enum (by rfl) T.m_enumerate (da_cons (dt_v 2) da_nil)) (dg_tup rfl (dgs_cons (dg_name (i := 4) nd rfl (by first | exact Or.inl rfl | exact Or.inr rfl)) (dgs_cons (dg_name (i := 5) nd rfl (by first | exact Or.inl rfl | exact Or.inr rfl)) dgs_nil))) (dss_one (ds_if (dc_gt (DT.dv (dt_call (n := 3) (φ := phi_law_draw) (fun _ _ h => runF_len h) (ok_law_draw T) (hr.mono (by decide)) (by rfl) T.g_law_draw T.F_law_draw.kp T.b_law_draw (da_cons (dt_v 0) (da_cons (dt_add (dt_v 1) (dt_v 4)) (da_cons dt_int da_nil))))) (DT.dv dt_int)) (dss_one (ds_app 3 (dt_v 5))) dss_nil)))
      (dss_cons (ds_if (dc_eq hr.units (DT.dv (dt_call (n := 3) (φ := phi_law_draw) (fun _ _ h => runF_len h) (ok_law_draw T) (hr.mono (by decide)) (by rfl) T.g_law_draw T.F_law_draw.kp T.b_law_draw (da_cons (dt_v 0) (da_cons (dt_add (dt_v 1) dt_int) (da_cons dt_int da_nil))))) (DT.dv dt_int)) (dss_one (ds_revP (dp_name 3))) dss_nil)
      (dss_one (ds_ret (dt_m 3))))))⟩
theorem ok_law_rule (T : Txt K mg f_book_begun f_begun f_order_now f_law_draw f_law_coins f_law_names f_law_some f_law_rule f_law_order f_law_free f_law_pool f_law_deal f_law_book f_law_whole f_law_plain f_law_due f_law d_book_begun d_begun d_order_now d_law_draw d_law_coins d_law_names d_law_some d_law_rule d_law_order d_law_free d_law_pool d_law_deal d_law_book d_law_whole d_law_plain d_law_due d_law) : FnOk P w K mg base CX0 3 f_law_rule d_law_rule ["_law_script", "_law_k", "_law_claims", "_law_pots", "_law_others"] (spD 5 phi_law_rule K) := by
  have nd : N_law_rule.Nodup := sc_law_rule.nd
  exact okD (Fb := F_law_rule) T.F_law_rule sc_law_rule rfl rfl fun cdv A outer s H E hr => have hu := hu_of hr; ⟨_, _,
    (dss_cons (ds_set (i := 5) nd rfl (by first | exact Or.inl rfl | exact Or.inr rfl) (dt_fz (dt_call (n := 3) (φ := phi_law_draw) (fun _ _ h => runF_len h) (ok_law_draw T) (hr.mono (by decide)) (by rfl) T.g_law_draw T.F_law_draw.kp T.b_law_draw (da_cons (dt_v 0) (da_cons (dt_v 1) (da_cons dt_int da_nil))))))
      (dss_cons (ds_set (i := 6) nd rfl (by first | exact Or.inl rfl | exact Or.inr rfl) (DV.dt (dv_ix (dv_v 2) (dt_call (n := 3) (φ := phi_law_draw) (fun _ _ h => runF_len h) (ok_law_draw T) (hr.mono (by decide)) (by rfl) T.g_law_draw T.F_law_draw.kp T.b_law_draw (da_cons (dt_v 0) (da_cons (dt_add (dt_v 1) dt_int) (da_cons (dt_len (by rfl) T.m_len (dv_v 2)) da_nil)))))))
      (dss_cons (ds_if (dc_lt (dv_v 5) (DT.dv dt_int)) (dss_one (ds_ret (dt_tup (da_cons dt_str (da_cons (dt_m 6) da_nil))))) dss_nil)
      (dss_cons (ds_if (DW.dc (dw_and (dc_eq hr.units (dv_v 5) (DT.dv dt_int)) (dw_and (dc_gt (DT.dv (dt_len (by rfl) T.m_len (dv_v 2))) (DT.dv dt_int)) (dw_and1 (dc_eq hr.units (DT.dv (dt_call (n := 3) (φ := phi_law_draw) (fun _ _ h => runF_len h) (ok_law_draw T) (hr.mono (by decide)) (by rfl) T.g_law_draw T.F_law_draw.kp T.b_law_draw (da_cons (dt_v 0) (da_cons (dt_add (dt_v 1) dt_int) (da_cons dt_int da_nil))))) (DT.dv dt_int)))))) (dss_one (ds_ret (dt_tup (da_cons dt_str (da_cons (dt_tuple (by rfl) T.m_tuple (DT.dv (dt_sl (dv_v 2) do_none (do_some dt_int)))) da_nil))))) dss_nil)
      (dss_cons (ds_if (DW.dc (dw_and (dc_eq hr.units (dv_v 5) (DT.dv dt_int)) (dw_and1 (dc_gt (DT.dv (dt_len (by rfl) T.m_len (dv_v 2))) (DT.dv dt_int))))) (dss_one (ds_ret (dt_tup (da_cons dt_str (da_cons (dt_tuple (by rfl) T.m_tuple (DT.dv (dt_cat (DT.dv (dt_sl (dv_v 2) (do_some (dt_neg dt_int)) do_none)) (DT.dv (dt_sl (dv_v 2) do_none (do_some (dt_neg dt_int))))))) da_nil))))) dss_nil)
      (dss_cons (ds_if (dc_eq hr.units (dv_v 5) (DT.dv dt_int)) (dss_one (ds_ret (dt_tup (da_cons dt_str (da_cons (dt_m 6) da_nil))))) dss_nil)
      (dss_cons (ds_if (DW.dc (dw_and (dc_eq hr.units (dv_v 5) (DT.dv dt_int)) (dw_and1 (dc_gt (DT.dv (dt_len (by rfl) T.m_len (dv_v 3))) (DT.dv dt_int))))) (dss_one (ds_ret (dt_tup (da_cons dt_str (da_cons (DV.dt (dv_ix (dv_v 3) (dt_call (n := 3) (φ := phi_law_draw) (fun _ _ h => runF_len h) (ok_law_draw T) (hr.mono (by decide)) (by rfl) T.g_law_draw T.F_law_draw.kp T.b_law_draw (da_cons (dt_v 0) (da_cons (dt_add (dt_v 1) dt_int) (da_cons (dt_len (by rfl) T.m_len (dv_v 3)) da_nil)))))) da_nil))))) dss_nil)
      (dss_cons (ds_if (DW.dc (dw_and (dc_gt (dv_v 5) (DT.dv dt_int)) (dw_and1 (dc_gt (DT.dv (dt_len (by rfl) T.m_len (dv_v 4))) (DT.dv dt_int))))) (dss_cons (ds_set (i := 7) nd rfl (by first | exact Or.inl rfl | exact Or.inr rfl) (DV.dt (dv_ix (dv_v 4) (dt_call (n := 3) (φ := phi_law_draw) (fun _ _ h => runF_len h) (ok_law_draw T) (hr.mono (by decide)) (by rfl) T.g_law_draw T.F_law_draw.kp T.b_law_draw (da_cons (dt_v 0) (da_cons (dt_add (dt_v 1) dt_int) (da_cons (dt_len (by rfl) T.m_len (dv_v 4)) da_nil)))))))
      (dss_cons (ds_if (dc_eq hr.units (dv_v 5) (DT.dv dt_int)) (dss_one (ds_ret (dt_tup (da_cons dt_str (da_cons (dt_m 7) da_nil))))) dss_nil)
      (dss_one (ds_ret (dt_tup (da_cons dt_str (da_cons (dt_m 7) (da_cons (dt_call (n := 2) (φ := phi_law_coins) (fun _ _ h => runF_len h) (ok_law_coins T) (hr.mono (by decide)) (by rfl) T.g_law_coins T.F_law_coins.kp T.b_law_coins (da_cons (dt_v 0) (da_cons (dt_add (dt_v 1) dt_int) da_nil))) da_nil)))))))) dss_nil)
      (dss_one (ds_ret (dt_tup (da_cons dt_str (da_cons (dt_m 6) da_nil)))))))))))))⟩
theorem ok_law_order (T : Txt K mg f_book_begun f_begun f_order_now f_law_draw f_law_coins f_law_names f_law_some f_law_rule f_law_order f_law_free f_law_pool f_law_deal f_law_book f_law_whole f_law_plain f_law_due f_law d_book_begun d_begun d_order_now d_law_draw d_law_coins d_law_names d_law_some d_law_rule d_law_order d_law_free d_law_pool d_law_deal d_law_book d_law_whole d_law_plain d_law_due d_law) : FnOk P w K mg base CX0 4 f_law_order d_law_order ["_law_script", "_law_k", "_law_name", "_law_claims", "_law_pots", "_law_others"] (spD 6 phi_law_order K) := by
  have nd : N_law_order.Nodup := sc_law_order.nd
  exact okD (Fb := F_law_order) T.F_law_order sc_law_order rfl rfl fun cdv A outer s H E hr => have hu := hu_of hr; ⟨_, _,
    (dss_cons (ds_set (i := 6) nd rfl (by first | exact Or.inl rfl | exact Or.inr rfl) (dt_lst da_nil))
      (dss_cons (ds_for PassesOwn.never rfl (di_enum (by rfl) T.m_enumerate (da_cons (dt_v 3) da_nil)) (dg_tup rfl (dgs_cons (dg_name (i := 7) nd rfl (by first | exact Or.inl rfl | exact Or.inr rfl)) (dgs_cons (dg_name (i := 8) nd rfl (by first | exact Or.inl rfl | exact Or.inr rfl)) dgs_nil))) (dss_one (ds_if (dc_eq hr.units (DT.dv (dt_call (n := 3) (φ := phi_law_draw) (fun _ _ h => runF_len h) (ok_law_draw T) (hr.mono (by decide)) (by rfl) T.g_law_draw T.F_law_draw.kp T.b_law_draw (da_cons (dt_v 0) (da_cons (dt_add (dt_v 1) (dt_v 7)) (da_cons dt_int da_nil))))) (DT.dv dt_int)) (dss_one (ds_app 6 (dt_fz (dt_tup (da_cons (dt_v 8) (da_cons (dt_add dt_int (dt_call (n := 3) (φ := phi_law_draw) (fun _ _ h => runF_len h) (ok_law_draw T) (hr.mono (by decide)) (by rfl) T.g_law_draw T.F_law_draw.kp T.b_law_draw (da_cons (dt_v 0) (da_cons (dt_add (dt_add (dt_v 1) dt_int) (dt_v 7)) (da_cons dt_int da_nil))))) da_nil)))))) dss_nil)))
      (dss_cons (ds_set (i := 9) nd rfl (by first | exact Or.inl rfl | exact Or.inr rfl) (dt_lst da_nil))
      (dss_cons (ds_for PassesOwn.never rfl (di_range1 (by rfl) T.m_range (da_cons (dt_call (n := 3) (φ := phi_law_draw) (fun _ _ h => runF_len h) (ok_law_draw T) (hr.mono (by decide)) (by rfl) T.g_law_draw T.F_law_draw.kp T.b_law_draw (da_cons (dt_v 0) (da_cons (dt_add (dt_v 1) dt_int) (da_cons dt_int da_nil)))) da_nil)) (dg_name (i := 7) nd rfl (by first | exact Or.inl rfl | exact Or.inr rfl)) (dss_one (ds_app 9 (dt_fz (dt_call (n := 5) (φ := phi_law_rule) (fun _ _ h => runF_len h) (ok_law_rule T) (hr.mono (by decide)) (by rfl) T.g_law_rule T.F_law_rule.kp T.b_law_rule (da_cons (dt_v 0) (da_cons (dt_add (dt_add (dt_v 1) dt_int) (dt_mul dt_int (dt_v 7))) (da_cons (dt_v 3) (da_cons (dt_v 4) (da_cons (dt_v 5) da_nil))))))))))
      (dss_cons (ds_set (i := 10) nd rfl (by first | exact Or.inl rfl | exact Or.inr rfl) (DV.dt (dv_ix (dv_v 3) (dt_call (n := 3) (φ := phi_law_draw) (fun _ _ h => runF_len h) (ok_law_draw T) (hr.mono (by decide)) (by rfl) T.g_law_draw T.F_law_draw.kp T.b_law_draw (da_cons (dt_v 0) (da_cons (dt_add (dt_v 1) dt_int) (da_cons (dt_len (by rfl) T.m_len (dv_v 3)) da_nil)))))))
      (dss_one (ds_ret (dt_tup (da_cons (dt_m 2) (da_cons (dt_m 6) (da_cons (dt_cat (dv_v 9) (DT.dv (dt_lst (da_cons (dt_tup (da_cons dt_str (da_cons (dt_v 10) da_nil))) da_nil)))) da_nil)))))))))))⟩
theorem ok_law_free (T : Txt K mg f_book_begun f_begun f_order_now f_law_draw f_law_coins f_law_names f_law_some f_law_rule f_law_order f_law_free f_law_pool f_law_deal f_law_book f_law_whole f_law_plain f_law_due f_law d_book_begun d_begun d_order_now d_law_draw d_law_coins d_law_names d_law_some d_law_rule d_law_order d_law_free d_law_pool d_law_deal d_law_book d_law_whole d_law_plain d_law_due d_law) : FnOk P w K mg base CX0 1 f_law_free d_law_free ["_law_orders", "_law_claims"] (spD 2 phi_law_free K) := by
  have nd : N_law_free.Nodup := sc_law_free.nd
  exact okD (Fb := F_law_free) T.F_law_free sc_law_free rfl rfl fun cdv A outer s H E hr => have hu := hu_of hr; ⟨_, _,
    (dss_cons (ds_set (i := 2) nd rfl (by first | exact Or.inl rfl | exact Or.inr rfl) (dt_lst da_nil))
      (dss_cons (ds_for PassesOwn.never rfl (di_list (dt_v 0)) (dg_tup rfl (dgs_cons (dg_name (i := 3) nd rfl (by first | exact Or.inl rfl | exact Or.inr rfl)) (dgs_cons (dg_name (i := 4) nd rfl (by first | exact Or.inl rfl | exact Or.inr rfl)) (dgs_cons (dg_name (i := 5) nd rfl (by first | exact Or.inl rfl | exact Or.inr rfl)) dgs_nil)))) (dss_one (ds_for PassesOwn.never rfl (di_list (dt_v 5)) (dg_name (i := 6) nd rfl (by first | exact Or.inl rfl | exact Or.inr rfl)) (dss_cons (ds_if (dc_eq hr.units (dv_ix (dv_v 6) dt_int) (DT.dv dt_str)) (dss_one (ds_set (i := 2) nd rfl (by first | exact Or.inl rfl | exact Or.inr rfl) (dt_cat (dv_v 2) (DT.dv (dt_list (by rfl) T.m_list (dv_ix (dv_v 6) dt_int)))))) dss_nil)
      (dss_one (ds_if (dc_eq hr.units (dv_ix (dv_v 6) dt_int) (DT.dv dt_str)) (dss_one (ds_app 2 (DV.dt (dv_ix (dv_v 6) dt_int)))) dss_nil))))))
      (dss_one (ds_ret (dt_comp (own := [("_law_claim", 7)]) rfl nd (di_list (dt_v 1)) (blkOk_by (own := [("_law_claim", 7)]) (N := N_law_free) (sc := defScope s_law_free) (by decide +kernel)) (fun _ _ _ _ _ => (dg_name (i := 7) nd rfl (by first | exact Or.inl rfl | exact Or.inr rfl))) (fun _ _ _ _ _ => (dts_one (dc_notIn (dv_v 7) (dv_v 2)))) (fun _ _ _ _ _ => (dt_v 7)) (by decide))))))⟩
theorem ok_law_pool (T : Txt K mg f_book_begun f_begun f_order_now f_law_draw f_law_coins f_law_names f_law_some f_law_rule f_law_order f_law_free f_law_pool f_law_deal f_law_book f_law_whole f_law_plain f_law_due f_law d_book_begun d_begun d_order_now d_law_draw d_law_coins d_law_names d_law_some d_law_rule d_law_order d_law_free d_law_pool d_law_deal d_law_book d_law_whole d_law_plain d_law_due d_law) : FnOk P w K mg base CX0 5 f_law_pool d_law_pool ["_law_script", "_law_k", "_law_name", "_law_claims", "_law_pots", "_law_others"] (spD 6 phi_law_pool K) := by
  have nd : N_law_pool.Nodup := sc_law_pool.nd
  exact okD (Fb := F_law_pool) T.F_law_pool sc_law_pool rfl rfl fun cdv A outer s H E hr => have hu := hu_of hr; ⟨_, _,
    (dss_cons (ds_set (i := 6) nd rfl (by first | exact Or.inl rfl | exact Or.inr rfl) (dt_lst da_nil))
      (dss_cons (ds_for PassesOwn.never rfl (di_enum (by rfl) T.m_enumerate (da_cons (dt_v 3) da_nil)) (dg_tup rfl (dgs_cons (dg_name (i := 7) nd rfl (by first | exact Or.inl rfl | exact Or.inr rfl)) (dgs_cons (dg_name (i := 8) nd rfl (by first | exact Or.inl rfl | exact Or.inr rfl)) dgs_nil))) (dss_one (ds_app 6 (dt_fz (dt_tup (da_cons (dt_v 8) (da_cons (dt_call (n := 2) (φ := phi_law_coins) (fun _ _ h => runF_len h) (ok_law_coins T) (hr.mono (by decide)) (by rfl) T.g_law_coins T.F_law_coins.kp T.b_law_coins (da_cons (dt_v 0) (da_cons (dt_add (dt_add (dt_v 1) dt_int) (dt_v 7)) da_nil))) (da_cons (dt_call (n := 2) (φ := phi_law_coins) (fun _ _ h => runF_len h) (ok_law_coins T) (hr.mono (by decide)) (by rfl) T.g_law_coins T.F_law_coins.kp T.b_law_coins (da_cons (dt_v 0) (da_cons (dt_add (dt_add (dt_v 1) dt_int) (dt_v 7)) da_nil))) da_nil))))))))
      (dss_cons (ds_set (i := 9) nd rfl (by first | exact Or.inl rfl | exact Or.inr rfl) (dt_sl (DT.dv (dt_lst (da_cons dt_str (da_cons dt_str (da_cons dt_str da_nil))))) do_none (do_some (dt_add dt_int (dt_call (n := 3) (φ := phi_law_draw) (fun _ _ h => runF_len h) (ok_law_draw T) (hr.mono (by decide)) (by rfl) T.g_law_draw T.F_law_draw.kp T.b_law_draw (da_cons (dt_v 0) (da_cons (dt_add (dt_v 1) dt_int) (da_cons dt_int da_nil))))))))
      (dss_cons (ds_set (i := 10) nd rfl (by first | exact Or.inl rfl | exact Or.inr rfl) (dt_lst da_nil))
      (dss_cons (ds_for PassesOwn.never rfl (di_enum (by rfl) T.m_enumerate (da_cons (dt_v 9) da_nil)) (dg_tup rfl (dgs_cons (dg_name (i := 7) nd rfl (by first | exact Or.inl rfl | exact Or.inr rfl)) (dgs_cons (dg_name (i := 11) nd rfl (by first | exact Or.inl rfl | exact Or.inr rfl)) dgs_nil))) (dss_one (ds_app 10 (dt_fz (dt_call (n := 6) (φ := phi_law_order) (fun _ _ h => runF_len h) (ok_law_order T) (hr.mono (by decide)) (by rfl) T.g_law_order T.F_law_order.kp T.b_law_order (da_cons (dt_v 0) (da_cons (dt_add (dt_add (dt_v 1) (dt_mul dt_int (dt_v 7))) dt_int) (da_cons (dt_v 11) (da_cons (dt_v 3) (da_cons (dt_v 4) (da_cons (dt_v 5) da_nil)))))))))))
      (dss_cons (ds_set (i := 12) nd rfl (by first | exact Or.inl rfl | exact Or.inr rfl) (dt_lst da_nil))
      (dss_cons (ds_for PassesOwn.never rfl (di_range1 (by rfl) T.m_range (da_cons (dt_call (n := 3) (φ := phi_law_draw) (fun _ _ h => runF_len h) (ok_law_draw T) (hr.mono (by decide)) (by rfl) T.g_law_draw T.F_law_draw.kp T.b_law_draw (da_cons (dt_v 0) (da_cons (dt_add (dt_v 1) dt_int) (da_cons dt_int da_nil)))) da_nil)) (dg_name (i := 7) nd rfl (by first | exact Or.inl rfl | exact Or.inr rfl)) (dss_cons (ds_set (i := 8) nd rfl (by first | exact Or.inl rfl | exact Or.inr rfl) (DV.dt (dv_ix (dv_v 3) (dt_call (n := 3) (φ := phi_law_draw) (fun _ _ h => runF_len h) (ok_law_draw T) (hr.mono (by decide)) (by rfl) T.g_law_draw T.F_law_draw.kp T.b_law_draw (da_cons (dt_v 0) (da_cons (dt_add (dt_add (dt_v 1) dt_int) (dt_v 7)) (da_cons (dt_len (by rfl) T.m_len (dv_v 3)) da_nil)))))))
      (dss_cons (ds_set (i := 13) nd rfl (by first | exact Or.inl rfl | exact Or.inr rfl) (DV.dt (dv_ix (dv_v 9) (dt_call (n := 3) (φ := phi_law_draw) (fun _ _ h => runF_len h) (ok_law_draw T) (hr.mono (by decide)) (by rfl) T.g_law_draw T.F_law_draw.kp T.b_law_draw (da_cons (dt_v 0) (da_cons (dt_add (dt_add (dt_v 1) dt_int) (dt_v 7)) (da_cons (dt_len (by rfl) T.m_len (dv_v 9)) da_nil)))))))
      (dss_one (ds_app 12 (dt_fz (dt_tup (da_cons (dt_v 8) (da_cons (dt_add dt_int (dt_call (n := 3) (φ := phi_law_draw) (fun _ _ h => runF_len h) (ok_law_draw T) (hr.mono (by decide)) (by rfl) T.g_law_draw T.F_law_draw.kp T.b_law_draw (da_cons (dt_v 0) (da_cons (dt_add (dt_add (dt_v 1) dt_int) (dt_v 7)) (da_cons dt_int da_nil))))) (da_cons (dt_v 13) da_nil))))))))))
      (dss_cons (ds_set (i := 14) nd rfl (by first | exact Or.inl rfl | exact Or.inr rfl) (dt_fz (dt_callB (n := 2) (φ := phi_law_free) (fun _ _ h => runF_len h) (ok_law_free T) (hr.mono (by decide)) (by rfl) T.g_law_free T.F_law_free.kp T.b_law_free (dvs_cons (dv_v 10) (dvs_cons (dv_v 3) dvs_nil)))))
      (dss_cons (ds_set (i := 15) nd rfl (by first | exact Or.inl rfl | exact Or.inr rfl) (dt_lst da_nil))
      (dss_cons (ds_for PassesOwn.never rfl (di_enum (by rfl) T.m_enumerate (da_cons (dt_fz (dt_sl (dv_v 14) do_none (do_some (dt_call (n := 3) (φ := phi_law_draw) (fun _ _ h => runF_len h) (ok_law_draw T) (hr.mono (by decide)) (by rfl) T.g_law_draw T.F_law_draw.kp T.b_law_draw (da_cons (dt_v 0) (da_cons (dt_add (dt_v 1) dt_int) (da_cons dt_int da_nil))))))) da_nil)) (dg_tup rfl (dgs_cons (dg_name (i := 7) nd rfl (by first | exact Or.inl rfl | exact Or.inr rfl)) (dgs_cons (dg_name (i := 8) nd rfl (by first | exact Or.inl rfl | exact Or.inr rfl)) dgs_nil))) (dss_one (ds_if (dc_gt (DT.dv (dt_len (by rfl) T.m_len (dv_v 4))) (DT.dv dt_int)) (dss_one (ds_app 15 (dt_fz (dt_tup (da_cons (DV.dt (dv_ix (dv_v 4) (dt_call (n := 3) (φ := phi_law_draw) (fun _ _ h => runF_len h) (ok_law_draw T) (hr.mono (by decide)) (by rfl) T.g_law_draw T.F_law_draw.kp T.b_law_draw (da_cons (dt_v 0) (da_cons (dt_add (dt_add (dt_v 1) dt_int) (dt_v 7)) (da_cons (dt_len (by rfl) T.m_len (dv_v 4)) da_nil)))))) (da_cons (dt_v 8) da_nil)))))) dss_nil)))
      (dss_cons (ds_setLc (i := 16) (own := [("_law_at", 7), ("_law_pot", 17)]) rfl nd rfl rfl (sw_true rfl rfl rfl (by decide +kernel)) (di_enum (by rfl) T.m_enumerate (da_cons (dt_v 4) da_nil)) (blkOk_by (own := [("_law_at", 7), ("_law_pot", 17)]) (N := N_law_pool) (sc := defScope s_law_pool) (by decide +kernel)) (fun _ _ _ _ _ => (dg_tup rfl (dgs_cons (dg_name (i := 7) nd rfl (by first | exact Or.inl rfl | exact Or.inr rfl)) (dgs_cons (dg_name (i := 17) nd rfl (by first | exact Or.inl rfl | exact Or.inr rfl)) dgs_nil)))) (fun _ _ _ _ _ => dts_nil) (fun _ _ _ _ _ => (dt_tup (da_cons (dt_v 17) (da_cons (dt_call (n := 2) (φ := phi_law_coins) (fun _ _ h => runF_len h) (ok_law_coins T) (hr.mono (by decide)) (by rfl) T.g_law_coins T.F_law_coins.kp T.b_law_coins (da_cons (dt_v 0) (da_cons (dt_add (dt_add (dt_v 1) dt_int) (dt_v 7)) da_nil))) da_nil)))) (by decide))
      (dss_one (ds_ret (dt_tup (da_cons (dt_m 2) (da_cons (dt_m 6) (da_cons (dt_m 16) (da_cons (dt_call (n := 3) (φ := phi_law_some) (fun _ _ h => runF_len h) (ok_law_some T) (hr.mono (by decide)) (by rfl) T.g_law_some T.F_law_some.kp T.b_law_some (da_cons (dt_v 0) (da_cons (dt_add (dt_v 1) dt_int) (da_cons (dt_v 3) da_nil)))) (da_cons (dt_m 10) (da_cons (dt_m 12) (da_cons (dt_m 15) da_nil)))))))))))))))))))))⟩
theorem ok_law_deal (T : Txt K mg f_book_begun f_begun f_order_now f_law_draw f_law_coins f_law_names f_law_some f_law_rule f_law_order f_law_free f_law_pool f_law_deal f_law_book f_law_whole f_law_plain f_law_due f_law d_book_begun d_begun d_order_now d_law_draw d_law_coins d_law_names d_law_some d_law_rule d_law_order d_law_free d_law_pool d_law_deal d_law_book d_law_whole d_law_plain d_law_due d_law) : FnOk P w K mg base CX0 6 f_law_deal d_law_deal ["_law_script", "_law_most"] (spD 2 phi_law_deal K) := by
  have nd : N_law_deal.Nodup := sc_law_deal.nd
  exact okD (Fb := F_law_deal) T.F_law_deal sc_law_deal rfl rfl fun cdv A outer s H E hr => have hu := hu_of hr; ⟨_, _,
    (dss_cons (ds_set (i := 2) nd rfl (by first | exact Or.inl rfl | exact Or.inr rfl) (dt_fz (dt_call (n := 1) (φ := phi_law_names) (fun _ _ h => runF_len h) (ok_law_names T) (hr.mono (by decide)) (by rfl) T.g_law_names T.F_law_names.kp T.b_law_names (da_cons (dt_v 0) da_nil))))
      (dss_cons (ds_set (i := 3) nd rfl (by first | exact Or.inl rfl | exact Or.inr rfl) (dt_add dt_int (dt_call (n := 3) (φ := phi_law_draw) (fun _ _ h => runF_len h) (ok_law_draw T) (hr.mono (by decide)) (by rfl) T.g_law_draw T.F_law_draw.kp T.b_law_draw (da_cons (dt_v 0) (da_cons dt_int (da_cons (dt_v 1) da_nil))))))
      (dss_cons (ds_set (i := 4) nd rfl (by first | exact Or.inl rfl | exact Or.inr rfl) (dt_lst da_nil))
      (dss_cons (ds_for PassesOwn.never rfl (di_range1 (by rfl) T.m_range (da_cons (dt_v 3) da_nil)) (dg_name (i := 5) nd rfl (by first | exact Or.inl rfl | exact Or.inr rfl)) (dss_cons (ds_set (i := 6) nd rfl (by first | exact Or.inl rfl | exact Or.inr rfl) (dt_sl (dv_v 2) (do_some (dt_add dt_int (dt_mul dt_int (dt_v 5)))) (do_some (dt_add dt_int (dt_mul dt_int (dt_v 5))))))
      (dss_cons (ds_set (i := 7) nd rfl (by first | exact Or.inl rfl | exact Or.inr rfl) (dt_sl (dv_v 6) do_none (do_some (dt_add dt_int (dt_call (n := 3) (φ := phi_law_draw) (fun _ _ h => runF_len h) (ok_law_draw T) (hr.mono (by decide)) (by rfl) T.g_law_draw T.F_law_draw.kp T.b_law_draw (da_cons (dt_v 0) (da_cons (dt_add dt_int (dt_v 5)) (da_cons dt_int da_nil))))))))
      (dss_cons (ds_set (i := 8) nd rfl (by first | exact Or.inl rfl | exact Or.inr rfl) (dt_sl (DT.dv (dt_lst (da_cons (DV.dt (dv_ix (dv_v 6) dt_int)) (da_cons (dt_add (DV.dt (dv_ix (dv_v 6) dt_int)) dt_str) da_nil)))) do_none (do_some (dt_call (n := 3) (φ := phi_law_draw) (fun _ _ h => runF_len h) (ok_law_draw T) (hr.mono (by decide)) (by rfl) T.g_law_draw T.F_law_draw.kp T.b_law_draw (da_cons (dt_v 0) (da_cons (dt_add dt_int (dt_v 5)) (da_cons dt_int da_nil)))))))
      (dss_cons (ds_setLc (i := 9) (own := [("_law_x", 10)]) rfl nd rfl rfl (sw_true rfl rfl rfl (by decide +kernel)) (di_list (dt_fz (dt_sl (dv_v 2) do_none (do_some (dt_v 3))))) (blkOk_by (own := [("_law_x", 10)]) (N := N_law_deal) (sc := defScope s_law_deal) (by decide +kernel)) (fun _ _ _ _ _ => (dg_name (i := 10) nd rfl (by first | exact Or.inl rfl | exact Or.inr rfl))) (fun _ _ _ _ _ => (dts_one (dc_ne hr.units (dv_v 10) (dv_ix (dv_v 2) (dt_v 5))))) (fun _ _ _ _ _ => (dt_v 10)) (by decide))
      (dss_one (ds_app 4 (dt_fz (dt_call (n := 6) (φ := phi_law_pool) (fun _ _ h => runF_len h) (ok_law_pool T) (hr.mono (by decide)) (by rfl) T.g_law_pool T.F_law_pool.kp T.b_law_pool (da_cons (dt_v 0) (da_cons (dt_mul dt_int (dt_v 5)) (da_cons (DV.dt (dv_ix (dv_v 2) (dt_v 5))) (da_cons (dt_v 7) (da_cons (dt_v 8) (da_cons (dt_v 9) da_nil)))))))))))))))
      (dss_one (ds_ret (dt_m 4)))))))⟩
theorem ok_law_book (T : Txt K mg f_book_begun f_begun f_order_now f_law_draw f_law_coins f_law_names f_law_some f_law_rule f_law_order f_law_free f_law_pool f_law_deal f_law_book f_law_whole f_law_plain f_law_due f_law d_book_begun d_begun d_order_now d_law_draw d_law_coins d_law_names d_law_some d_law_rule d_law_order d_law_free d_law_pool d_law_deal d_law_book d_law_whole d_law_plain d_law_due d_law) : FnOk P w K mg base CX0 2 f_law_book d_law_book ["_law_script", "_law_pool_here"] (spD 2 phi_law_book K) := by
  have nd : N_law_book.Nodup := sc_law_book.nd
  exact okD (Fb := F_law_book) T.F_law_book sc_law_book rfl rfl fun cdv A outer s H E hr => have hu := hu_of hr; ⟨_, _,
    (dss_cons (ds_set (i := 2) nd rfl (by first | exact Or.inl rfl | exact Or.inr rfl) (dt_lst da_nil))
      (dss_cons (ds_set (i := 3) nd rfl (by first | exact Or.inl rfl | exact Or.inr rfl) (dt_lst da_nil))
      (dss_cons (ds_for PassesOwn.never rfl (di_enum (by rfl) T.m_enumerate (da_cons (DV.dt (dv_ix (dv_v 1) dt_int)) da_nil)) (dg_tup rfl (dgs_cons (dg_name (i := 4) nd rfl (by first | exact Or.inl rfl | exact Or.inr rfl)) (dgs_cons (dg_name (i := 5) nd rfl (by first | exact Or.inl rfl | exact Or.inr rfl)) dgs_nil))) (dss_cons (ds_set (i := 6) nd rfl (by first | exact Or.inl rfl | exact Or.inr rfl) (DV.dt (dv_ix (DT.dv (dt_lst (da_cons dt_int (da_cons (DV.dt (dv_ix (dv_v 5) dt_int)) (da_cons (dt_call (n := 3) (φ := phi_law_draw) (fun _ _ h => runF_len h) (ok_law_draw T) (hr.mono (by decide)) (by rfl) T.g_law_draw T.F_law_draw.kp T.b_law_draw (da_cons (dt_v 0) (da_cons (dt_add dt_int (dt_v 4)) (da_cons dt_int da_nil)))) da_nil))))) (dt_call (n := 3) (φ := phi_law_draw) (fun _ _ h => runF_len h) (ok_law_draw T) (hr.mono (by decide)) (by rfl) T.g_law_draw T.F_law_draw.kp T.b_law_draw (da_cons (dt_v 0) (da_cons (dt_add dt_int (dt_v 4)) (da_cons dt_int da_nil)))))))
      (dss_cons (ds_app 2 (dt_fz (dt_tup (da_cons (DV.dt (dv_ix (dv_v 5) dt_int)) (da_cons (dt_v 6) da_nil)))))
      (dss_one (ds_app 3 (dt_fz (dt_tup (da_cons (DV.dt (dv_ix (dv_v 5) dt_int)) (da_cons (dt_mul (dt_mul (DV.dt (dv_ix (dv_v 5) dt_int)) (dt_call (n := 3) (φ := phi_law_draw) (fun _ _ h => runF_len h) (ok_law_draw T) (hr.mono (by decide)) (by rfl) T.g_law_draw T.F_law_draw.kp T.b_law_draw (da_cons (dt_v 0) (da_cons (dt_add dt_int (dt_v 4)) (da_cons dt_int da_nil))))) (dt_min2 rfl (by rfl) T.m_min (da_cons dt_int (da_cons (dt_v 6) da_nil)))) da_nil)))))))))
      (dss_cons (ds_set (i := 7) nd rfl (by first | exact Or.inl rfl | exact Or.inr rfl) (dt_lst da_nil))
      (dss_cons (ds_for PassesOwn.never rfl (di_enum (by rfl) T.m_enumerate (da_cons (DV.dt (dv_ix (dv_v 1) dt_int)) da_nil)) (dg_tup rfl (dgs_cons (dg_name (i := 4) nd rfl (by first | exact Or.inl rfl | exact Or.inr rfl)) (dgs_cons (dg_name (i := 5) nd rfl (by first | exact Or.inl rfl | exact Or.inr rfl)) dgs_nil))) (dss_one (ds_app 7 (dt_fz (dt_tup (da_cons (DV.dt (dv_ix (dv_v 5) dt_int)) (da_cons (dt_call (n := 3) (φ := phi_law_draw) (fun _ _ h => runF_len h) (ok_law_draw T) (hr.mono (by decide)) (by rfl) T.g_law_draw T.F_law_draw.kp T.b_law_draw (da_cons (dt_v 0) (da_cons (dt_add dt_int (dt_v 4)) (da_cons dt_int da_nil)))) da_nil)))))))
      (dss_cons (ds_setLc (i := 8) (own := [("_law_pot", 9), ("_law_mark", 10)]) rfl nd rfl rfl (sw_true rfl rfl rfl (by decide +kernel)) (di_list (DV.dt (dv_ix (dv_v 1) dt_int))) (blkOk_by (own := [("_law_pot", 9), ("_law_mark", 10)]) (N := N_law_book) (sc := defScope s_law_book) (by decide +kernel)) (fun _ _ _ _ _ => (dg_tup rfl (dgs_cons (dg_name (i := 9) nd rfl (by first | exact Or.inl rfl | exact Or.inr rfl)) (dgs_cons (dg_name (i := 10) nd rfl (by first | exact Or.inl rfl | exact Or.inr rfl)) dgs_nil)))) (fun _ _ _ _ _ => dts_nil) (fun _ _ _ _ _ => (dt_tup (da_cons (dt_v 9) (da_cons (dt_mod (dt_call (n := 3) (φ := phi_law_draw) (fun _ _ h => runF_len h) (ok_law_draw T) (hr.mono (by decide)) (by rfl) T.g_law_draw T.F_law_draw.kp T.b_law_draw (da_cons (dt_v 0) (da_cons dt_int (da_cons dt_int da_nil)))) (dt_add (dt_v 10) dt_int)) da_nil)))) (by decide))
      (dss_one (ds_ret (dt_tup (da_cons (dt_m 2) (da_cons (dt_m 3) (da_cons (dt_m 7) (da_cons (dt_m 8) (da_cons (dt_call (n := 3) (φ := phi_law_draw) (fun _ _ h => runF_len h) (ok_law_draw T) (hr.mono (by decide)) (by rfl) T.g_law_draw T.F_law_draw.kp T.b_law_draw (da_cons (dt_v 0) (da_cons dt_int (da_cons dt_int da_nil)))) da_nil))))))))))))))⟩
theorem ok_law_whole (T : Txt K mg f_book_begun f_begun f_order_now f_law_draw f_law_coins f_law_names f_law_some f_law_rule f_law_order f_law_free f_law_pool f_law_deal f_law_book f_law_whole f_law_plain f_law_due f_law d_book_begun d_begun d_order_now d_law_draw d_law_coins d_law_names d_law_some d_law_rule d_law_order d_law_free d_law_pool d_law_deal d_law_book d_law_whole d_law_plain d_law_due d_law) : FnOk P w K mg base CX0 1 f_law_whole d_law_whole ["_law_found"] (spD 1 phi_law_whole K) := by
  have nd : N_law_whole.Nodup := sc_law_whole.nd
  exact okD (Fb := F_law_whole) T.F_law_whole sc_law_whole rfl rfl fun cdv A outer s H E hr => have hu := hu_of hr; ⟨_, _,
    (dss_one (ds_ret (dt_and (dt_isi (ty := "int") (by rfl) T.m_isinstance (dv_v 0) (by rfl) T.m_int (by decide +kernel)) (dt_one (dt_not (dt_isi (ty := "bool") (by rfl) T.m_isinstance (dv_v 0) (by rfl) T.m_bool (by decide +kernel)))))))⟩
theorem ok_law_plain (T : Txt K mg f_book_begun f_begun f_order_now f_law_draw f_law_coins f_law_names f_law_some f_law_rule f_law_order f_law_free f_law_pool f_law_deal f_law_book f_law_whole f_law_plain f_law_due f_law d_book_begun d_begun d_order_now d_law_draw d_law_coins d_law_names d_law_some d_law_rule d_law_order d_law_free d_law_pool d_law_deal d_law_book d_law_whole d_law_plain d_law_due d_law) : ∀ n : Nat, FnOk P w K mg base CX0 (n + 2) f_law_plain d_law_plain ["_law_thing"] (spD 1 (phi_law_plain n) K)
  | 0 => fn_none
  | n + 1 => by
    have nd : N_law_plain.Nodup := sc_law_plain.nd
    have IH := ok_law_plain T n
    rw [show n + 1 + 2 = n + 2 + 1 by omega]
    exact okD (Fb := F_law_plain (phi_law_plain n)) T.F_law_plain sc_law_plain rfl rfl fun cdv A outer s H E hr => have hu := hu_of hr; ⟨_, _,
      (dss_cons (ds_if (dc_val (dt_isi2 (t1 := "list") (t2 := "tuple") (by rfl) T.m_isinstance (dv_v 0) (by rfl) T.m_list (by decide +kernel) (by rfl) T.m_tuple (by decide +kernel))) (dss_one (ds_ret (dt_all rfl (by rfl) T.m_all (DT.dv (dt_comp (own := [("_law_one", 1)]) rfl nd (di_seq (dt_v 0)) (blkOk_by (own := [("_law_one", 1)]) (N := N_law_plain) (sc := defScope s_law_plain) (by decide +kernel)) (fun _ _ _ _ _ => (dg_name (i := 1) nd rfl (by first | exact Or.inl rfl | exact Or.inr rfl))) (fun _ _ _ _ _ => dts_nil) (fun _ _ _ _ _ => (dt_call (n := 1) (φ := phi_law_plain n) (by cases n with | zero => exact fun _ _ h => nomatch h | succ n => exact fun _ _ h => runF_len h) IH hr (by rfl) T.g_law_plain T.F_law_plain.kp T.b_law_plain (da_cons (dt_v 1) da_nil))) (by decide)))))) dss_nil)
      (dss_one (ds_ret (dt_or (dt_isi (ty := "str") (by rfl) T.m_isinstance (dv_v 0) (by rfl) T.m_str (by decide +kernel)) (dt_one (dt_call (n := 1) (φ := phi_law_whole) (fun _ _ h => runF_len h) (ok_law_whole T) (hr.mono (by omega)) (by rfl) T.g_law_whole T.F_law_whole.kp T.b_law_whole (da_cons (dt_v 0) da_nil)))))))⟩
theorem ok_law_due (T : Txt K mg f_book_begun f_begun f_order_now f_law_draw f_law_coins f_law_names f_law_some f_law_rule f_law_order f_law_free f_law_pool f_law_deal f_law_book f_law_whole f_law_plain f_law_due f_law d_book_begun d_begun d_order_now d_law_draw d_law_coins d_law_names d_law_some d_law_rule d_law_order d_law_free d_law_pool d_law_deal d_law_book d_law_whole d_law_plain d_law_due d_law) : FnOk P w K mg base CX0 1 f_law_due d_law_due ["_law_pool_here", "_law_book_here"] (spD 2 phi_law_due K) := by
  have nd : N_law_due.Nodup := sc_law_due.nd
  exact okD (Fb := F_law_due) T.F_law_due sc_law_due rfl rfl fun cdv A outer s H E hr => have hu := hu_of hr; ⟨_, _,
    (dss_cons (ds_for PassesOwn.never rfl (di_list (DV.dt (dv_ix (dv_v 0) dt_int))) (dg_tup rfl (dgs_cons (dg_name (i := 2) nd rfl (by first | exact Or.inl rfl | exact Or.inr rfl)) (dgs_cons (dg_name (i := 3) nd rfl (by first | exact Or.inl rfl | exact Or.inr rfl)) (dgs_cons (dg_name (i := 4) nd rfl (by first | exact Or.inl rfl | exact Or.inr rfl)) dgs_nil)))) (dss_one (ds_for PassesOwn.never rfl (di_list (DV.dt (dv_ix (dv_v 1) dt_int))) (dg_tup rfl (dgs_cons (dg_name (i := 5) nd rfl (by first | exact Or.inl rfl | exact Or.inr rfl)) (dgs_cons (dg_name (i := 6) nd rfl (by first | exact Or.inl rfl | exact Or.inr rfl)) dgs_nil))) (dss_one (ds_if (DW.dc (dw_and (dc_eq hr.units (dv_v 5) (dv_v 2)) (dw_and1 (dc_ge (dv_v 6) (dv_v 3))))) (dss_one (ds_ret (dt_m 4))) dss_nil)))))
      (dss_one (ds_ret (DV.dt (dv_ix (dv_ix (dv_ix (dv_v 0) dt_int) dt_int) dt_int)))))⟩
theorem ok_law (T : Txt K mg f_book_begun f_begun f_order_now f_law_draw f_law_coins f_law_names f_law_some f_law_rule f_law_order f_law_free f_law_pool f_law_deal f_law_book f_law_whole f_law_plain f_law_due f_law d_book_begun d_begun d_order_now d_law_draw d_law_coins d_law_names d_law_some d_law_rule d_law_order d_law_free d_law_pool d_law_deal d_law_book d_law_whole d_law_plain d_law_due d_law) : FnOk P w K mg base CX0 11 f_law d_law ["_law_script"] (spD 1 phi_law K) := by
  have nd : N_law.Nodup := sc_law.nd
  exact okD (Fb := F_law) T.F_law sc_law rfl rfl fun cdv A outer s H E hr => have hu := hu_of hr; ⟨_, _,
    (dss_cons (ds_set (i := 1) nd rfl (by first | exact Or.inl rfl | exact Or.inr rfl) (dt_fz (dt_call (n := 2) (φ := phi_law_deal) (fun _ _ h => runF_len h) (ok_law_deal T) (hr.mono (by decide)) (by rfl) T.g_law_deal T.F_law_deal.kp T.b_law_deal (da_cons (dt_v 0) (da_cons dt_int da_nil)))))
      (dss_cons (ds_set (i := 2) nd rfl (by first | exact Or.inl rfl | exact Or.inr rfl) (DV.dt (dv_ix (dv_v 1) dt_int)))
      (dss_cons (ds_set (i := 3) nd rfl (by first | exact Or.inl rfl | exact Or.inr rfl) (dt_fz (dt_call (n := 2) (φ := phi_law_book) (fun _ _ h => runF_len h) (ok_law_book T) (hr.mono (by decide)) (by rfl) T.g_law_book T.F_law_book.kp T.b_law_book (da_cons (dt_v 0) (da_cons (dt_v 2) da_nil)))))
      (dss_cons (ds_set (i := 4) nd rfl (by first | exact Or.inl rfl | exact Or.inr rfl) (dt_fz (dt_call (n := 2) (φ := phi_order_now) (fun _ _ h => runF_len h) (ok_order_now T) (hr.mono (by decide)) (by rfl) T.g_order_now T.F_order_now.kp T.b_order_now (da_cons (dt_v 2) (da_cons (dt_v 3) da_nil)))))
      (dss_cons (ds_if (DW.dc (dw_or (dc_not (dc_val (dt_isi (ty := "str") (by rfl) T.m_isinstance (dv_v 4) (by rfl) T.m_str (by decide +kernel)))) (dw_or (dc_ne hr.units (dv_v 4) (DT.dv (dt_call (n := 2) (φ := phi_law_due) (fun _ _ h => runF_len h) (ok_law_due T) (hr.mono (by decide)) (by rfl) T.g_law_due T.F_law_due.kp T.b_law_due (da_cons (dt_v 2) (da_cons (dt_v 3) da_nil))))) (dw_or1 (dc_ne hr.units (dv_v 3) (DT.dv (dt_call (n := 2) (φ := phi_law_book) (fun _ _ h => runF_len h) (ok_law_book T) (hr.mono (by decide)) (by rfl) T.g_law_book T.F_law_book.kp T.b_law_book (da_cons (dt_v 0) (da_cons (dt_v 2) da_nil))))))))) (dss_one (ds_ret dt_bl)) dss_nil)
      (dss_cons (ds_set (i := 5) nd rfl (by first | exact Or.inl rfl | exact Or.inr rfl) (dt_lst da_nil))
      (dss_cons (ds_for PassesOwn.never rfl (di_list (dt_v 1)) (dg_name (i := 6) nd rfl (by first | exact Or.inl rfl | exact Or.inr rfl)) (dss_cons (ds_setLc (i := 7) (own := [("_law_claim", 8)]) rfl nd rfl rfl (sw_true rfl rfl rfl (by decide +kernel)) (di_list (DV.dt (dv_ix (dv_v 6) dt_int))) (blkOk_by (own := [("_law_claim", 8)]) (N := N_law) (sc := defScope s_law) (by decide +kernel)) (fun _ _ _ _ _ => (dg_name (i := 8) nd rfl (by first | exact Or.inl rfl | exact Or.inr rfl))) (fun _ _ _ _ _ => dts_nil) (fun _ _ _ _ _ => (dt_tup (da_cons (DV.dt (dv_ix (dv_v 8) dt_int)) (da_cons dt_int da_nil)))) (by decide))
      (dss_cons (ds_setLc (i := 9) (own := [("_law_claim", 8)]) rfl nd rfl rfl (sw_true rfl rfl rfl (by decide +kernel)) (di_list (DV.dt (dv_ix (dv_v 6) dt_int))) (blkOk_by (own := [("_law_claim", 8)]) (N := N_law) (sc := defScope s_law) (by decide +kernel)) (fun _ _ _ _ _ => (dg_name (i := 8) nd rfl (by first | exact Or.inl rfl | exact Or.inr rfl))) (fun _ _ _ _ _ => dts_nil) (fun _ _ _ _ _ => (dt_tup (da_cons (DV.dt (dv_ix (dv_v 8) dt_int)) (da_cons (DV.dt (dv_ix (dv_v 8) dt_int)) da_nil)))) (by decide))
      (dss_one (ds_app 5 (dt_fz (dt_tup (da_cons (dt_v 9) (da_cons (dt_v 7) (da_cons (dt_list (by rfl) T.m_list (dv_v 7)) (da_cons (dt_comp (own := [("_law_pot", 10)]) rfl nd (di_list (DV.dt (dv_ix (dv_v 6) dt_int))) (blkOk_by (own := [("_law_pot", 10)]) (N := N_law) (sc := defScope s_law) (by decide +kernel)) (fun _ _ _ _ _ => (dg_name (i := 10) nd rfl (by first | exact Or.inl rfl | exact Or.inr rfl))) (fun _ _ _ _ _ => dts_nil) (fun _ _ _ _ _ => (dt_tup (da_cons (DV.dt (dv_ix (dv_v 10) dt_int)) (da_cons dt_int da_nil)))) (by decide)) (da_cons dt_int da_nil))))))))))))
      (dss_cons (ds_set (i := 11) nd rfl (by first | exact Or.inl rfl | exact Or.inr rfl) (dt_fz (dt_call (n := 1) (φ := phi_begun) (fun _ _ h => runF_len h) (ok_begun T) (hr.mono (by decide)) (by rfl) T.g_begun T.F_begun.kp T.b_begun (da_cons (dt_v 1) da_nil))))
      (dss_cons (ds_if (DW.dc (dw_or (dc_not (dc_val (dt_isi (ty := "tuple") (by rfl) T.m_isinstance (dv_v 11) (by rfl) T.m_tuple (by decide +kernel)))) (dw_or (dc_not (dc_val (dt_call (n := 1) (φ := (phi_law_plain 8)) (fun _ _ h => runF_len h) (ok_law_plain T 8) (hr.mono (by decide)) (by rfl) T.g_law_plain T.F_law_plain.kp T.b_law_plain (da_cons (dt_v 11) da_nil)))) (dw_or1 (dc_ne hr.units (dv_v 1) (DT.dv (dt_call (n := 2) (φ := phi_law_deal) (fun _ _ h => runF_len h) (ok_law_deal T) (hr.mono (by decide)) (by rfl) T.g_law_deal T.F_law_deal.kp T.b_law_deal (da_cons (dt_v 0) (da_cons dt_int da_nil))))))))) (dss_one (ds_ret dt_bl)) dss_nil)
      (dss_one (ds_ret (dt_eq hr.units (dv_v 11) (DT.dv (dt_tup (da_cons (dt_v 5) (da_cons (dt_lst da_nil) (da_cons (dt_comp (own := [("_law_one", 6)]) rfl nd (di_list (dt_v 1)) (blkOk_by (own := [("_law_one", 6)]) (N := N_law) (sc := defScope s_law) (by decide +kernel)) (fun _ _ _ _ _ => (dg_name (i := 6) nd rfl (by first | exact Or.inl rfl | exact Or.inr rfl))) (fun _ _ _ _ _ => dts_nil) (fun _ _ _ _ _ => dt_int) (by decide)) da_nil)))))))))))))))))⟩
end
theorem all_mk {l : PySem.W.OpenLaw} {w : World} {K : PySem.W.Frag} {h : Heap} {mg : Str → Option Value} {fa : Addr} {f_book_begun f_begun f_order_now f_law_draw f_law_coins f_law_names f_law_some f_law_rule f_law_order f_law_free f_law_pool f_law_deal f_law_book f_law_whole f_law_plain f_law_due f_law : Addr} (X : K.In h) (G : h.Ns mainGlobals mg) (hfa : mg "law" = some (.ref fa))
    {od1 an1 od2 an2 od3 an3 od4 an4 od5 an5 od6 an6 od7 an7 od8 an8 od9 an9 od10 an10 od11 an11 od12 an12 od13 an13 od14 an14 od15 an15 od16 an16 od17 an17 : Option Addr} {sl1 sl2 sl3 sl4 sl5 sl6 sl7 sl8 sl9 sl10 sl11 sl12 sl13 sl14 sl15 sl16 sl17 : Array (Option Value)} {oc1 kV1 dc1 pm1 cd1 ct1 oc2 kV2 dc2 pm2 cd2 ct2 oc3 kV3 dc3 pm3 cd3 ct3 oc4 kV4 dc4 pm4 cd4 ct4 oc5 kV5 dc5 pm5 cd5 ct5 oc6 kV6 dc6 pm6 cd6 ct6 oc7 kV7 dc7 pm7 cd7 ct7 oc8 kV8 dc8 pm8 cd8 ct8 oc9 kV9 dc9 pm9 cd9 ct9 oc10 kV10 dc10 pm10 cd10 ct10 oc11 kV11 dc11 pm11 cd11 ct11 oc12 kV12 dc12 pm12 cd12 ct12 oc13 kV13 dc13 pm13 cd13 ct13 oc14 kV14 dc14 pm14 cd14 ct14 oc15 kV15 dc15 pm15 cd15 ct15 oc16 kV16 dc16 pm16 cd16 ct16 oc17 kV17 dc17 pm17 cd17 ct17 : Value}
    (a1 : PySem.W.nsIn K mainGlobals "book_begun" = some (some (.ref f_book_begun))) (l1 : K.lookup f_book_begun = some ⟨oc1, od1, .func (PySem.W.fnOf "book_begun" "book_begun" (defArgs s_book_begun) (defBody s_book_begun) (defScope s_book_begun) .none kV1 dc1 pm1 an1 cd1 ct1), sl1⟩) (c1 : PySem.W.codeIn K cd1 "book_begun" = true) (k1 : PySem.W.keepIn K (.ref f_book_begun) = true)
    (a2 : PySem.W.nsIn K mainGlobals "begun" = some (some (.ref f_begun))) (l2 : K.lookup f_begun = some ⟨oc2, od2, .func (PySem.W.fnOf "begun" "begun" (defArgs s_begun) (defBody s_begun) (defScope s_begun) .none kV2 dc2 pm2 an2 cd2 ct2), sl2⟩) (c2 : PySem.W.codeIn K cd2 "begun" = true) (k2 : PySem.W.keepIn K (.ref f_begun) = true)
    (a3 : PySem.W.nsIn K mainGlobals "order_now" = some (some (.ref f_order_now))) (l3 : K.lookup f_order_now = some ⟨oc3, od3, .func (PySem.W.fnOf "order_now" "order_now" (defArgs s_order_now) (defBody s_order_now) (defScope s_order_now) .none kV3 dc3 pm3 an3 cd3 ct3), sl3⟩) (c3 : PySem.W.codeIn K cd3 "order_now" = true) (k3 : PySem.W.keepIn K (.ref f_order_now) = true)
    (a4 : PySem.W.nsIn K mainGlobals "_law_draw" = some (some (.ref f_law_draw))) (l4 : K.lookup f_law_draw = some ⟨oc4, od4, .func (PySem.W.fnOf "_law_draw" "_law_draw" (defArgs s_law_draw) (defBody s_law_draw) (defScope s_law_draw) .none kV4 dc4 pm4 an4 cd4 ct4), sl4⟩) (c4 : PySem.W.codeIn K cd4 "_law_draw" = true) (k4 : PySem.W.keepIn K (.ref f_law_draw) = true)
    (a5 : PySem.W.nsIn K mainGlobals "_law_coins" = some (some (.ref f_law_coins))) (l5 : K.lookup f_law_coins = some ⟨oc5, od5, .func (PySem.W.fnOf "_law_coins" "_law_coins" (defArgs s_law_coins) (defBody s_law_coins) (defScope s_law_coins) .none kV5 dc5 pm5 an5 cd5 ct5), sl5⟩) (c5 : PySem.W.codeIn K cd5 "_law_coins" = true) (k5 : PySem.W.keepIn K (.ref f_law_coins) = true)
    (a6 : PySem.W.nsIn K mainGlobals "_law_names" = some (some (.ref f_law_names))) (l6 : K.lookup f_law_names = some ⟨oc6, od6, .func (PySem.W.fnOf "_law_names" "_law_names" (defArgs s_law_names) (defBody s_law_names) (defScope s_law_names) .none kV6 dc6 pm6 an6 cd6 ct6), sl6⟩) (c6 : PySem.W.codeIn K cd6 "_law_names" = true) (k6 : PySem.W.keepIn K (.ref f_law_names) = true)
    (a7 : PySem.W.nsIn K mainGlobals "_law_some" = some (some (.ref f_law_some))) (l7 : K.lookup f_law_some = some ⟨oc7, od7, .func (PySem.W.fnOf "_law_some" "_law_some" (defArgs s_law_some) (defBody s_law_some) (defScope s_law_some) .none kV7 dc7 pm7 an7 cd7 ct7), sl7⟩) (c7 : PySem.W.codeIn K cd7 "_law_some" = true) (k7 : PySem.W.keepIn K (.ref f_law_some) = true)
    (a8 : PySem.W.nsIn K mainGlobals "_law_rule" = some (some (.ref f_law_rule))) (l8 : K.lookup f_law_rule = some ⟨oc8, od8, .func (PySem.W.fnOf "_law_rule" "_law_rule" (defArgs s_law_rule) (defBody s_law_rule) (defScope s_law_rule) .none kV8 dc8 pm8 an8 cd8 ct8), sl8⟩) (c8 : PySem.W.codeIn K cd8 "_law_rule" = true) (k8 : PySem.W.keepIn K (.ref f_law_rule) = true)
    (a9 : PySem.W.nsIn K mainGlobals "_law_order" = some (some (.ref f_law_order))) (l9 : K.lookup f_law_order = some ⟨oc9, od9, .func (PySem.W.fnOf "_law_order" "_law_order" (defArgs s_law_order) (defBody s_law_order) (defScope s_law_order) .none kV9 dc9 pm9 an9 cd9 ct9), sl9⟩) (c9 : PySem.W.codeIn K cd9 "_law_order" = true) (k9 : PySem.W.keepIn K (.ref f_law_order) = true)
    (a10 : PySem.W.nsIn K mainGlobals "_law_free" = some (some (.ref f_law_free))) (l10 : K.lookup f_law_free = some ⟨oc10, od10, .func (PySem.W.fnOf "_law_free" "_law_free" (defArgs s_law_free) (defBody s_law_free) (defScope s_law_free) .none kV10 dc10 pm10 an10 cd10 ct10), sl10⟩) (c10 : PySem.W.codeIn K cd10 "_law_free" = true) (k10 : PySem.W.keepIn K (.ref f_law_free) = true)
    (a11 : PySem.W.nsIn K mainGlobals "_law_pool" = some (some (.ref f_law_pool))) (l11 : K.lookup f_law_pool = some ⟨oc11, od11, .func (PySem.W.fnOf "_law_pool" "_law_pool" (defArgs s_law_pool) (defBody s_law_pool) (defScope s_law_pool) .none kV11 dc11 pm11 an11 cd11 ct11), sl11⟩) (c11 : PySem.W.codeIn K cd11 "_law_pool" = true) (k11 : PySem.W.keepIn K (.ref f_law_pool) = true)
    (a12 : PySem.W.nsIn K mainGlobals "_law_deal" = some (some (.ref f_law_deal))) (l12 : K.lookup f_law_deal = some ⟨oc12, od12, .func (PySem.W.fnOf "_law_deal" "_law_deal" (defArgs s_law_deal) (defBody s_law_deal) (defScope s_law_deal) .none kV12 dc12 pm12 an12 cd12 ct12), sl12⟩) (c12 : PySem.W.codeIn K cd12 "_law_deal" = true) (k12 : PySem.W.keepIn K (.ref f_law_deal) = true)
    (a13 : PySem.W.nsIn K mainGlobals "_law_book" = some (some (.ref f_law_book))) (l13 : K.lookup f_law_book = some ⟨oc13, od13, .func (PySem.W.fnOf "_law_book" "_law_book" (defArgs s_law_book) (defBody s_law_book) (defScope s_law_book) .none kV13 dc13 pm13 an13 cd13 ct13), sl13⟩) (c13 : PySem.W.codeIn K cd13 "_law_book" = true) (k13 : PySem.W.keepIn K (.ref f_law_book) = true)
    (a14 : PySem.W.nsIn K mainGlobals "_law_whole" = some (some (.ref f_law_whole))) (l14 : K.lookup f_law_whole = some ⟨oc14, od14, .func (PySem.W.fnOf "_law_whole" "_law_whole" (defArgs s_law_whole) (defBody s_law_whole) (defScope s_law_whole) .none kV14 dc14 pm14 an14 cd14 ct14), sl14⟩) (c14 : PySem.W.codeIn K cd14 "_law_whole" = true) (k14 : PySem.W.keepIn K (.ref f_law_whole) = true)
    (a15 : PySem.W.nsIn K mainGlobals "_law_plain" = some (some (.ref f_law_plain))) (l15 : K.lookup f_law_plain = some ⟨oc15, od15, .func (PySem.W.fnOf "_law_plain" "_law_plain" (defArgs s_law_plain) (defBody s_law_plain) (defScope s_law_plain) .none kV15 dc15 pm15 an15 cd15 ct15), sl15⟩) (c15 : PySem.W.codeIn K cd15 "_law_plain" = true) (k15 : PySem.W.keepIn K (.ref f_law_plain) = true)
    (a16 : PySem.W.nsIn K mainGlobals "_law_due" = some (some (.ref f_law_due))) (l16 : K.lookup f_law_due = some ⟨oc16, od16, .func (PySem.W.fnOf "_law_due" "_law_due" (defArgs s_law_due) (defBody s_law_due) (defScope s_law_due) .none kV16 dc16 pm16 an16 cd16 ct16), sl16⟩) (c16 : PySem.W.codeIn K cd16 "_law_due" = true) (k16 : PySem.W.keepIn K (.ref f_law_due) = true)
    (a17 : PySem.W.nsIn K mainGlobals "law" = some (some (.ref f_law))) (l17 : K.lookup f_law = some ⟨oc17, od17, .func (PySem.W.fnOf "law" "law" (defArgs s_law) (defBody s_law) (defScope s_law) .none kV17 dc17 pm17 an17 cd17 ct17), sl17⟩) (c17 : PySem.W.codeIn K cd17 "law" = true) (k17 : PySem.W.keepIn K (.ref f_law) = true)
    (z1 : PySem.W.nsIn K mainGlobals "dict" = some none)
    (z2 : PySem.W.nsIn K mainGlobals "len" = some none)
    (z3 : PySem.W.nsIn K mainGlobals "range" = some none)
    (z4 : PySem.W.nsIn K mainGlobals "enumerate" = some none)
    (z5 : PySem.W.nsIn K mainGlobals "tuple" = some none)
    (z6 : PySem.W.nsIn K mainGlobals "list" = some none)
    (z7 : PySem.W.nsIn K mainGlobals "min" = some none)
    (z8 : PySem.W.nsIn K mainGlobals "isinstance" = some none)
    (z9 : PySem.W.nsIn K mainGlobals "bool" = some none)
    (z10 : PySem.W.nsIn K mainGlobals "int" = some none)
    (z11 : PySem.W.nsIn K mainGlobals "all" = some none)
    (z12 : PySem.W.nsIn K mainGlobals "str" = some none)
    : ∃ fd : FuncData, (∀ (s : Shared) (v : Value), BindsTo s fd ⟨[v], []⟩ [("_law_script", v)]) ∧ ∀ (K' : PySem.W.Frag) (base : Heap), Less K K' → FnOk l.prog w K' mg base CX0 11 fa fd ["_law_script"] (spD 1 phi_law K') := by
  have e := hfa.symm.trans (PySem.W.mg_of X G a17)
  cases e
  have E1 := fun_mk (st := s_book_begun) l1 c1 k1
  have E2 := fun_mk (st := s_begun) l2 c2 k2
  have E3 := fun_mk (st := s_order_now) l3 c3 k3
  have E4 := fun_mk (st := s_law_draw) l4 c4 k4
  have E5 := fun_mk (st := s_law_coins) l5 c5 k5
  have E6 := fun_mk (st := s_law_names) l6 c6 k6
  have E7 := fun_mk (st := s_law_some) l7 c7 k7
  have E8 := fun_mk (st := s_law_rule) l8 c8 k8
  have E9 := fun_mk (st := s_law_order) l9 c9 k9
  have E10 := fun_mk (st := s_law_free) l10 c10 k10
  have E11 := fun_mk (st := s_law_pool) l11 c11 k11
  have E12 := fun_mk (st := s_law_deal) l12 c12 k12
  have E13 := fun_mk (st := s_law_book) l13 c13 k13
  have E14 := fun_mk (st := s_law_whole) l14 c14 k14
  have E15 := fun_mk (st := s_law_plain) l15 c15 k15
  have E16 := fun_mk (st := s_law_due) l16 c16 k16
  have E17 := fun_mk (st := s_law) l17 c17 k17
  refine ⟨PySem.W.fnOf "law" "law" (defArgs s_law) (defBody s_law) (defScope s_law) .none kV17 dc17 pm17 an17 cd17 ct17, fun s v => .of_eq rfl, fun K' base Ls => ?_⟩
  have F1 := Ls.fun E1
  have F2 := Ls.fun E2
  have F3 := Ls.fun E3
  have F4 := Ls.fun E4
  have F5 := Ls.fun E5
  have F6 := Ls.fun E6
  have F7 := Ls.fun E7
  have F8 := Ls.fun E8
  have F9 := Ls.fun E9
  have F10 := Ls.fun E10
  have F11 := Ls.fun E11
  have F12 := Ls.fun E12
  have F13 := Ls.fun E13
  have F14 := Ls.fun E14
  have F15 := Ls.fun E15
  have F16 := Ls.fun E16
  have F17 := Ls.fun E17
  have T : Txt K' mg _ _ _ _ _ _ _ _ _ _ _ _ _ _ _ _ _ _ _ _ _ _ _ _ _ _ _ _ _ _ _ _ _ _ := ⟨F1, F1.binds (ps := ["pool"]) (fun _ _ _ _ _ _ us hl => match us, hl with | [_], _ => rfl), PySem.W.mg_of X G a1,
    F2, F2.binds (ps := ["deal"]) (fun _ _ _ _ _ _ us hl => match us, hl with | [_], _ => rfl), PySem.W.mg_of X G a2,
    F3, F3.binds (ps := ["pool", "book"]) (fun _ _ _ _ _ _ us hl => match us, hl with | [_, _], _ => rfl), PySem.W.mg_of X G a3,
    F4, F4.binds (ps := ["_law_script", "_law_k", "_law_many"]) (fun _ _ _ _ _ _ us hl => match us, hl with | [_, _, _], _ => rfl), PySem.W.mg_of X G a4,
    F5, F5.binds (ps := ["_law_script", "_law_k"]) (fun _ _ _ _ _ _ us hl => match us, hl with | [_, _], _ => rfl), PySem.W.mg_of X G a5,
    F6, F6.binds (ps := ["_law_script"]) (fun _ _ _ _ _ _ us hl => match us, hl with | [_], _ => rfl), PySem.W.mg_of X G a6,
    F7, F7.binds (ps := ["_law_script", "_law_k", "_law_names_here"]) (fun _ _ _ _ _ _ us hl => match us, hl with | [_, _, _], _ => rfl), PySem.W.mg_of X G a7,
    F8, F8.binds (ps := ["_law_script", "_law_k", "_law_claims", "_law_pots", "_law_others"]) (fun _ _ _ _ _ _ us hl => match us, hl with | [_, _, _, _, _], _ => rfl), PySem.W.mg_of X G a8,
    F9, F9.binds (ps := ["_law_script", "_law_k", "_law_name", "_law_claims", "_law_pots", "_law_others"]) (fun _ _ _ _ _ _ us hl => match us, hl with | [_, _, _, _, _, _], _ => rfl), PySem.W.mg_of X G a9,
    F10, F10.binds (ps := ["_law_orders", "_law_claims"]) (fun _ _ _ _ _ _ us hl => match us, hl with | [_, _], _ => rfl), PySem.W.mg_of X G a10,
    F11, F11.binds (ps := ["_law_script", "_law_k", "_law_name", "_law_claims", "_law_pots", "_law_others"]) (fun _ _ _ _ _ _ us hl => match us, hl with | [_, _, _, _, _, _], _ => rfl), PySem.W.mg_of X G a11,
    F12, F12.binds (ps := ["_law_script", "_law_most"]) (fun _ _ _ _ _ _ us hl => match us, hl with | [_, _], _ => rfl), PySem.W.mg_of X G a12,
    F13, F13.binds (ps := ["_law_script", "_law_pool_here"]) (fun _ _ _ _ _ _ us hl => match us, hl with | [_, _], _ => rfl), PySem.W.mg_of X G a13,
    F14, F14.binds (ps := ["_law_found"]) (fun _ _ _ _ _ _ us hl => match us, hl with | [_], _ => rfl), PySem.W.mg_of X G a14,
    F15, F15.binds (ps := ["_law_thing"]) (fun _ _ _ _ _ _ us hl => match us, hl with | [_], _ => rfl), PySem.W.mg_of X G a15,
    F16, F16.binds (ps := ["_law_pool_here", "_law_book_here"]) (fun _ _ _ _ _ _ us hl => match us, hl with | [_, _], _ => rfl), PySem.W.mg_of X G a16,
    F17, F17.binds (ps := ["_law_script"]) (fun _ _ _ _ _ _ us hl => match us, hl with | [_], _ => rfl), PySem.W.mg_of X G a17,
    PySem.W.mg_none_of X G z1,
    PySem.W.mg_none_of X G z2,
    PySem.W.mg_none_of X G z3,
    PySem.W.mg_none_of X G z4,
    PySem.W.mg_none_of X G z5,
    PySem.W.mg_none_of X G z6,
    PySem.W.mg_none_of X G z7,
    PySem.W.mg_none_of X G z8,
    PySem.W.mg_none_of X G z9,
    PySem.W.mg_none_of X G z10,
    PySem.W.mg_none_of X G z11,
    PySem.W.mg_none_of X G z12⟩
  exact ok_law T
end K30

set_option Elab.async false
set_option linter.all false
set_option maxRecDepth 100000
/-! Natives: plain typed functions that stand for the code's functions; the rules by which the one follows from the other. -/
namespace DL
open PySem PySem.Spec PyProof.Rows L2
abbrev Nm := List Nat
-- images of typed things
abbrev eS (l : Nm) : D := .str (sg l)
abbrev eLs {α : Type} (e : α → D) (xs : List α) : D := .lst (xs.map e)
abbrev eSq {α : Type} (e : α → D) (xs : List α) : D := .tup (xs.map e)
section
variable {α β γ δ ε ζ η θ : Type}
abbrev eT1 (a : α → D) (p : α) : D := .tup [a p]
abbrev eT2 (a : α → D) (b : β → D) (p : α × β) : D := .tup [a p.1, b p.2]
abbrev eT3 (a : α → D) (b : β → D) (c : γ → D) (p : α × β × γ) : D := .tup [a p.1, b p.2.1, c p.2.2]
abbrev eT4 (a : α → D) (b : β → D) (c : γ → D) (d : δ → D) (p : α × β × γ × δ) : D := .tup [a p.1, b p.2.1, c p.2.2.1, d p.2.2.2]
abbrev eT5 (a : α → D) (b : β → D) (c : γ → D) (d : δ → D) (e : ε → D) (p : α × β × γ × δ × ε) : D := .tup [a p.1, b p.2.1, c p.2.2.1, d p.2.2.2.1, e p.2.2.2.2]
abbrev eT6 (a : α → D) (b : β → D) (c : γ → D) (d : δ → D) (e : ε → D) (f : ζ → D) (p : α × β × γ × δ × ε × ζ) : D := .tup [a p.1, b p.2.1, c p.2.2.1, d p.2.2.2.1, e p.2.2.2.2.1, f p.2.2.2.2.2]
abbrev eT7 (a : α → D) (b : β → D) (c : γ → D) (d : δ → D) (e : ε → D) (f : ζ → D) (g : η → D) (p : α × β × γ × δ × ε × ζ × η) : D := .tup [a p.1, b p.2.1, c p.2.2.1, d p.2.2.2.1, e p.2.2.2.2.1, f p.2.2.2.2.2.1, g p.2.2.2.2.2.2]
def eO (e : α → D) : Option α → D
  | none => .non
  | some a => e a
abbrev kS (l : Nm) : Key := .inr (sg l)
abbrev kI (i : Int) : Key := .inl i
abbrev eKd (k : β → Key) (e : α → D) (kv : List (β × α)) : D := .dic (kv.map fun p => (k p.1, e p.2))
-- things of one holder
abbrev oL (e : α → D) (xs : List α) : T := .lst ((xs.map e).map T.p)
abbrev oE (E : α → T) (xs : List α) : T := .lst (xs.map E)
abbrev oK (k : β → Key) (e : α → D) (kv : List (β × α)) : T := .dic (pairsT (kv.map fun p => (k p.1, e p.2)))
abbrev pE (e : α → D) (x : α) : T := .p (e x)
theorem oE_toD {E : α → T} {e : α → D} (h : ∀ x, (E x).toD = e x) (xs : List α) : (oE E xs).toD = eLs e xs := by
  show D.lst (T.toDs (xs.map E)) = _
  rw [toDs_map2 E e xs fun x _ => h x]
theorem oL_toD {e : α → D} (xs : List α) : (oL e xs).toD = eLs e xs := toD_l
theorem oK_toD {k : β → Key} {e : α → D} (kv : List (β × α)) : (oK k e kv).toD = eKd k e kv := toD_d _
def eOT (E : α → T) : Option α → T
  | none => .p .non
  | some a => E a
-- walks
inductive Lp (σ ρ : Type) where
  | nx (s : σ) | bk (s : σ) | rt (r : ρ)
def fold {σ : Type} (f : α → σ → Option σ) : List α → σ → Option σ
  | [], s => some s
  | x :: xs, s => (f x s).bind (fold f xs)
def lpB {σ ρ : Type} (k : σ → Option (Lp σ ρ)) : Lp σ ρ → Option (Lp σ ρ)
  | .nx s => k s
  | .bk s => some (.nx s)
  | .rt r => some (.rt r)
def foldB {σ ρ : Type} (f : α → σ → Option (Lp σ ρ)) : List α → σ → Option (Lp σ ρ)
  | [], s => some (.nx s)
  | x :: xs, s => (f x s).bind (lpB (foldB f xs))
/-- what stands behind a walk that may tell the answer -/
def lpK {σ ρ τ : Type} (k : σ → Option τ) (a : ρ → Option τ) : Lp σ ρ → Option τ
  | .nx s => k s
  | .bk _ => none
  | .rt r => a r
def mapO (f : α → Option β) : List α → Option (List β)
  | [] => some []
  | x :: xs => (f x).bind fun y => (mapO f xs).map (y :: ·)
def compO (f : α → Option β) (xs : List α) : Option (List β) := if xs.length ≤ 1000000 then mapO f xs else none
def compT (f : α → β) (xs : List α) : Option (List β) := if xs.length ≤ 1000000 then some (xs.map f) else none
def compOF (p : α → Bool) (f : α → Option β) (xs : List α) : Option (List β) := if xs.length ≤ 1000000 then mapO f (xs.filter p) else none
def compTF (p : α → Bool) (f : α → β) (xs : List α) : Option (List β) := if xs.length ≤ 1000000 then some ((xs.filter p).map f) else none
-- arithmetic that is only told within bounds
def mulN (a b : Int) : Option Int := if mulOk a b = true then some (a * b) else none
def divN (a b : Int) : Option Int := if divOk a b = true then some (a / b) else none
def modN (a b : Int) : Option Int := if modOk a b = true then some (a % b) else none
def powN (a b : Int) : Option Int := if powOk a b = true then some (a ^ b.toNat) else none
def strN (a : Int) : Option Nm := if a.natAbs < 1606938044258990275541962092341162602522202993782792835301376 then some (dg a) else none
-- texts
def catS (a b : Nm) : Option Nm := if a.length + b.length ≤ 16777216 then some (a ++ b) else none
def repN (a : Nm) (n : Int) : Option Nm := if -1000000000 < n ∧ n < 1000000000 ∧ a.length * n.toNat ≤ 16777216 then some (List.replicate n.toNat a).flatten else none
def ixS (l : Nm) (i : Int) : Option Nm := if l.length ≤ 16777216 then (atI l i).map fun c => [c] else none
def cutN (l : Nm) (lo hi : Option Int) : Option Nm := if l.length ≤ 16777216 then some (cutA l lo hi) else none
def lenS (l : Nm) : Option Int := if l.length ≤ 16777216 then some (l.length : Int) else none
-- lists
def push (xs : List α) (x : α) : Option (List α) := if xs.length < 16000000 then some (xs ++ [x]) else none
def catL (xs ys : List α) : Option (List α) := if xs.length + ys.length ≤ 16777216 then some (xs ++ ys) else none
def extL (xs ys : List α) : Option (List α) := if xs.length + ys.length < 16000000 then some (xs ++ ys) else none
def putI (xs : List α) (i : Int) (x : α) : Option (List α) := (ixN xs.length i).map fun k => xs.set k x
def addI (xs : List Int) (i d : Int) : Option (List Int) := if 0 ≤ i then (atI xs i).bind fun x => putI xs i (x + d) else none
def subI (xs : List Int) (i d : Int) : Option (List Int) := if 0 ≤ i then (atI xs i).bind fun x => putI xs i (x - d) else none
def rngN (lo : Int) (n : Nat) : List Int := (List.range n).map fun (k : Nat) => lo + (k : Int)
def rng1 (b : Int) : Option (List Int) := if b < 4611686018427387904 ∧ -4611686018427387904 ≤ b then some (rngN 0 b.toNat) else none
def rng2 (a b : Int) : Option (List Int) := if (a < 4611686018427387904 ∧ -4611686018427387904 ≤ a) ∧ (b < 4611686018427387904 ∧ -4611686018427387904 ≤ b) then some (rngN a (b - a).toNat) else none
def enumN : Nat → List α → List (Int × α)
  | _, [] => []
  | i, x :: xs => ((i : Int), x) :: enumN (i + 1) xs
def zipN : List α → List β → List (α × β)
  | x :: xs, y :: ys => (x, y) :: zipN xs ys
  | _, _ => []
-- dicts
def lkN [DecidableEq β] (kv : List (β × α)) (k : β) : Option α := (kv.find? fun p => decide (p.1 = k)).map (·.2)
def putN [DecidableEq β] (kv : List (β × α)) (k : β) (x : α) : List (β × α) := if (kv.any fun p => decide (p.1 = k)) = true then kv.map (fun p => if p.1 = k then (p.1, x) else p) else kv ++ [(k, x)]
def putK [DecidableEq β] (kv : List (β × α)) (k : β) (x : α) : Option (List (β × α)) := if kv.length < 16000000 then some (putN kv k x) else none
def mkK [DecidableEq β] (ps : List (β × α)) : List (β × α) := ps.foldl (fun acc p => putN acc p.1 p.2) []
end
-- weakest ends of statements
def Wp (o : Option (Fl × Env)) (Q : Fl → Env → Prop) : Prop := ∃ fl e, o = some (fl, e) ∧ Q fl e
section
variable {env e e1 e2 e3 : Env} {f fa fb fc : EF} {ra : AF} {c c2 : CF} {A B X Y F : SF} {G : GF} {Q : Fl → Env → Prop} {t u : T} {d a b : D} {it : IF} {ds es : List D} {α β σ ρ : Type}
theorem w_nx (h : Q .nx env) : Wp (sNx env) Q := ⟨_, _, rfl, h⟩
theorem w_ct (h : Q .ct env) : Wp (sCt env) Q := ⟨_, _, rfl, h⟩
theorem w_bk (h : Q .bk env) : Wp (sBk env) Q := ⟨_, _, rfl, h⟩
theorem w_retN (h : Q (.rt (.p .non)) env) : Wp (sRetN env) Q := ⟨_, _, rfl, h⟩
theorem w_ret (h : f env = some (t, e)) (q : Q (.rt t) e) : Wp (sRet f env) Q := ⟨_, _, by rw [sRet_q, h]; rfl, q⟩
theorem w_seq (h : A env = some (.nx, e1)) (k : Wp (B e1) Q) : Wp (sSeq A B env) Q := by
  obtain ⟨fl, e, h1, h2⟩ := k
  exact ⟨fl, e, by rw [sSeq_q, h, bindS, kSeq_n, h1], h2⟩
theorem seq_assoc : sSeq (sSeq A B) F env = sSeq A (sSeq B F) env := by
  rw [sSeq_q, sSeq_q, sSeq_q]
  cases A env with
  | none => rfl
  | some r =>
    obtain ⟨fl, e⟩ := r
    cases fl <;> rfl
theorem seq_one : sSeq A sNx env = A env := by
  rw [sSeq_q]
  cases A env with
  | none => rfl
  | some r =>
    obtain ⟨fl, e⟩ := r
    cases fl <;> rfl
theorem w_assoc (k : Wp (sSeq A (sSeq B F) env) Q) : Wp (sSeq (sSeq A B) F env) Q := by unfold Wp at *; rw [seq_assoc]; exact k
theorem w_one (k : Wp (sSeq A sNx env) Q) : Wp (A env) Q := by unfold Wp at *; rw [seq_one] at k; exact k
theorem w_snx (k : Wp (B env) Q) : Wp (sSeq sNx B env) Q := k
theorem w_sct (h : Q .ct env) : Wp (sSeq sCt B env) Q := ⟨_, _, rfl, h⟩
theorem w_sbk (h : Q .bk env) : Wp (sSeq sBk B env) Q := ⟨_, _, rfl, h⟩
theorem w_sretN (h : Q (.rt (.p .non)) env) : Wp (sSeq sRetN B env) Q := ⟨_, _, rfl, h⟩
theorem w_sret (h : f env = some (t, e)) (q : Q (.rt t) e) : Wp (sSeq (sRet f) B env) Q := ⟨.rt t, e, by rw [sSeq_q, sRet_q, h]; rfl, q⟩
theorem w_if {τ : Type} {n1 n2 : Option τ} {r : τ} {v : Bool} (hc : c env = some (v, e)) (h : (if v = true then n1 else n2) = some r) (ht : v = true → n1 = some r → Wp (sSeq X B e) Q) (hf : v = false → n2 = some r → Wp (sSeq Y B e) Q) : Wp (sSeq (sIf c X Y) B env) Q := by
  have hs : sIf c X Y env = if v = true then X e else Y e := by rw [sIf_q, hc]; rfl
  have go : ∀ Z : SF, Wp (sSeq Z B e) Q → sIf c X Y env = Z e → Wp (sSeq (sIf c X Y) B env) Q := fun Z hz he => by
    obtain ⟨fl, e', h1, h2⟩ := hz
    exact ⟨fl, e', by rw [sSeq_q, he, ← sSeq_q, h1], h2⟩
  cases v with
  | true => exact go X (ht rfl h) hs
  | false => exact go Y (hf rfl h) hs
theorem w_join {P : Env → Prop} (h1 : Wp (A env) fun fl e => fl = .nx ∧ P e) (h2 : ∀ e, P e → Wp (B e) Q) : Wp (sSeq A B env) Q := by
  obtain ⟨fl, e, h, rfl, p⟩ := h1
  exact w_seq h (h2 e p)
theorem w_set {i : Nat} (h : f env = some (t, e)) (hi : i < e.length) : sSet i f env = some (.nx, e.set i (some t)) := by
  rw [sSet_q, h, bindS, kSet_q, if_pos hi]
theorem w_drop (h : f env = some (t, e)) : sDrop f env = some (.nx, e) := by rw [sDrop_q, h]; rfl
theorem w_asg (h : f env = some (t, e)) (hg : G t e = some e1) : sAsg f G env = some (.nx, e1) := by rw [sAsg_q, h, bindS, kAsg_q, hg]; rfl
theorem w_for {P : Env → Prop} (hi : it env = some (ds, e1)) (hl : ∃ e2, loopD G F ds e1 = some (.nx, e2) ∧ P e2) (k : ∀ e, P e → Wp (B e) Q) : Wp (sSeq (sFor it G F) B env) Q := by
  obtain ⟨e2, h, p⟩ := hl
  exact w_seq (by rw [sFor_q, hi, bindS, kFor_q, h]) (k e2 p)
theorem w_forB {τ : Type} {R : σ → Env → Prop} {ET : ρ → T} {o : Lp σ ρ} {k : σ → Option τ} {w : ρ → Option τ} {r : τ} (hi : it env = some (ds, e1))
    (hl : ∃ fl e2, loopD G F ds e1 = some (fl, e2) ∧ (match o with | .nx s => fl = .nx ∧ R s e2 | .rt r => fl = .rt (ET r) | .bk _ => False))
    (h : lpK k w o = some r) (hk : ∀ s e, R s e → k s = some r → Wp (B e) Q) (hw : ∀ v e, w v = some r → Q (.rt (ET v)) e) : Wp (sSeq (sFor it G F) B env) Q := by
  obtain ⟨fl, e2, h1, p⟩ := hl
  cases o with
  | nx s =>
    obtain ⟨rfl, p⟩ := p
    exact w_seq (by rw [sFor_q, hi, bindS, kFor_q, h1]) (hk s e2 p h)
  | rt v =>
    have p : fl = .rt (ET v) := p
    subst p
    exact ⟨.rt (ET v), e2, by rw [sSeq_q, sFor_q, hi, bindS, kFor_q, h1]; rfl, hw v e2 h⟩
  | bk s => exact p.elim
theorem loop_fold (R : σ → Env → Prop) {dd : α → D} {fn : α → σ → Option σ} (hb : ∀ x s s' env, R s env → fn x s = some s' → ∃ e1, G (.p (dd x)) env = some e1 ∧ Wp (F e1) fun fl e => (fl = .nx ∨ fl = .ct) ∧ R s' e) :
    ∀ (xs : List α) (s s' : σ) (env : Env), R s env → fold fn xs s = some s' → ∃ e2, loopD G F (xs.map dd) env = some (.nx, e2) ∧ R s' e2
  | [], s, s', env, hr, h => by cases h; exact ⟨env, rfl, hr⟩
  | x :: xs, s, s', env, hr, h => by
    obtain ⟨s1, h1, h2⟩ := obind h
    obtain ⟨e1, g1, fl, e2, g2, g3, g4⟩ := hb x s s1 env hr h1
    obtain ⟨e3, g5, g6⟩ := loop_fold R hb xs s1 s' e2 g4 h2
    refine ⟨e3, ?_, g6⟩
    rw [List.map_cons, loop_c, g1, bindS, kLp1_q, g2, bindS]
    rcases g3 with rfl | rfl
    · rw [kLp2_n, g5]
    · rw [kLp2_c, g5]
/-- the ends of a walk's body -/
def QB (R : σ → Env → Prop) (ET : ρ → T) : Lp σ ρ → Fl → Env → Prop
  | .nx s => fun fl e => (fl = .nx ∨ fl = .ct) ∧ R s e
  | .bk s => fun fl e => fl = .bk ∧ R s e
  | .rt r => fun fl _ => fl = .rt (ET r)
theorem loop_foldB (R : σ → Env → Prop) (ET : ρ → T) {dd : α → D} {fn : α → σ → Option (Lp σ ρ)} (hb : ∀ x s o env, R s env → fn x s = some o → ∃ e1, G (.p (dd x)) env = some e1 ∧ Wp (F e1) (QB R ET o)) :
    ∀ (xs : List α) (s : σ) (o : Lp σ ρ) (env : Env), R s env → foldB fn xs s = some o → ∃ fl e2, loopD G F (xs.map dd) env = some (fl, e2) ∧ (match o with | .nx s => fl = .nx ∧ R s e2 | .rt r => fl = .rt (ET r) | .bk _ => False)
  | [], s, o, env, hr, h => by cases h; exact ⟨_, env, rfl, rfl, hr⟩
  | x :: xs, s, o, env, hr, h => by
    obtain ⟨p, h1, h2⟩ := obind h
    obtain ⟨e1, g1, fl, e2, g2, g3⟩ := hb x s p env hr h1
    cases p with
    | nx s1 =>
      obtain ⟨g3, g4⟩ := g3
      obtain ⟨fl3, e3, g5, g6⟩ := loop_foldB R ET hb xs s1 o e2 g4 h2
      refine ⟨fl3, e3, ?_, g6⟩
      rw [List.map_cons, loop_c, g1, bindS, kLp1_q, g2, bindS]
      rcases g3 with rfl | rfl
      · rw [kLp2_n, g5]
      · rw [kLp2_c, g5]
    | bk s1 =>
      obtain ⟨rfl, g4⟩ := g3
      cases h2
      exact ⟨_, e2, by rw [List.map_cons, loop_c, g1, bindS, kLp1_q, g2, bindS, kLp2_b], rfl, g4⟩
    | rt r =>
      have g3 : fl = .rt (ET r) := g3
      subst g3
      cases h2
      exact ⟨_, e2, by rw [List.map_cons, loop_c, g1, bindS, kLp1_q, g2, bindS, kLp2_r], rfl⟩
/-- a def's function -/
theorem runF_wp {n k : Nat} {xs : List D} {t : T} (hk : xs.length = k) (h : Wp (F (startE n xs)) fun fl _ => fl = .rt t ∨ (fl = .nx ∧ t = .p .non)) : runF n k F xs = some t := by
  obtain ⟨fl, e, h1, h2⟩ := h
  unfold runF
  rw [if_pos hk, h1]
  rcases h2 with rfl | ⟨rfl, rfl⟩ <;> rfl
theorem bnd {τ υ : Type} {o : Option τ} {k : τ → Option υ} {r : υ} {P : Prop} (h : o.bind k = some r) (g : ∀ v, o = some v → k v = some r → P) : P := by
  obtain ⟨v, h1, h2⟩ := obind h
  exact g v h1 h2
end
end DL

set_option Elab.async false
set_option linter.all false
set_option maxRecDepth 100000
/-! Natives: the rules of expressions. -/
namespace DL
open PySem PySem.Spec PyProof.Rows L2
section
variable {env e e1 e2 e3 w : Env} {f fa fb fc fi fo fk fx : EF} {ra : AF} {c c2 test : CF} {G : GF} {it : IF} {t u v : T} {ts us : List T} {d x y z : D} {ds es : List D} {i j k n : Nat} {a b m : Int} {p q : Nm} {α β κ : Type}
theorem e_v (h : env[i]? = some (some (.p d))) : eV i env = some (.p d, env) := by rw [eV_q, h]; rfl
theorem e_vt (h : env[i]? = some (some t)) (hd : t.toD = d) : eV i env = some (.p d, env.set i (some (.p d))) ∨ ∃ d', t = .p d' := by
  cases t <;> first | exact .inr ⟨_, rfl⟩ | (left; rw [eV_q, h, ← hd]; rfl)
theorem e_vl {xs : List T} (h : env[i]? = some (some (.lst xs))) (hd : (T.lst xs).toD = d) : eV i env = some (.p d, env.set i (some (.p d))) := by rw [eV_q, h, ← hd]; rfl
theorem e_vu {xs : List T} (h : env[i]? = some (some (.tup xs))) (hd : (T.tup xs).toD = d) : eV i env = some (.p d, env.set i (some (.p d))) := by rw [eV_q, h, ← hd]; rfl
theorem e_vk {xs : List (Key × T)} (h : env[i]? = some (some (.dic xs))) (hd : (T.dic xs).toD = d) : eV i env = some (.p d, env.set i (some (.p d))) := by rw [eV_q, h, ← hd]; rfl
theorem e_m (h : env[i]? = some (some t)) : eM i env = some (t, env.set i none) := by rw [eM_q, h]; rfl
theorem e_b (h : env[i]? = some (some t)) : eB i env = some (t, env) := by rw [eB_q, h]; rfl
theorem e_c : eC d env = some (.p d, env) := rfl
theorem e_s (s : String) : eC (.str (PySem.Str.ofString s)) env = some (.p (eS (cod s)), env) := by rw [ofS]; rfl
theorem e_w (h : f env = some (.p d, e)) : eW f env = some (.p d, e) := by rw [eW_q, h]; rfl
theorem e_fz (h : f env = some (t, e)) (hd : t.toD = d) : eFz f env = some (.p d, e) := by rw [eFz_q, h, ← hd]; rfl
theorem a_n : aN env = some ([], env) := rfl
theorem a_c (h : f env = some (t, e1)) (hr : ra e1 = some (ts, e2)) : aC f ra env = some (t :: ts, e2) := by rw [aC_q, h, bindS, kAC_q, hr]; rfl
theorem a_mv (h0 : env[i]? = some (some v)) (hr : ra env = some (ts, e2)) (h : e2[i]? = some (some t)) : aMv i ra env = some (t :: ts, e2.set i none) := by rw [aMv_q, h0, kMv_s, hr, bindS, kMv2_q, h]; rfl
theorem e_l (h : ra env = some (ts, e)) (hl : Nat.ble ts.length 1000 = true) (ht : T.lst ts = t) : eL ra env = some (t, e) := by rw [eL_q, h, bindS, kL_q, if_pos (Nat.le_of_ble_eq_true hl), ht]
theorem e_t (h : ra env = some (ts, e)) (hl : Nat.ble ts.length 1000 = true) (ht : mkTup ts = t) : eT ra env = some (t, e) := by rw [eT_q, h, bindS, kT_q, if_pos (Nat.le_of_ble_eq_true hl), ht]
theorem e_op {g : D → D → Option D} (h1 : fa env = some (.p x, e1)) (h2 : fb e1 = some (.p y, e2)) (hg : g x y = some z) : eOp g fa fb env = some (.p z, e2) := by rw [eOp_q, h1, bindS, kOp1_q, h2, bindS, kOp2_q, hg]; rfl
theorem e_cmp {g : D → D → Option Bool} {r : Bool} (h1 : fa env = some (t, e1)) (h2 : fb e1 = some (u, e2)) (d1 : t.toD = x) (d2 : u.toD = y) (hg : g x y = some r) : eCmp g fa fb env = some (.p (.bl r), e2) := by rw [eCmp_q, h1, bindS, kCm1_q, h2, bindS, kCm2_q, d1, d2, hg]; rfl
theorem e_neg (h : f env = some (.p (.int a), e)) : eNeg f env = some (.p (.int (-a)), e) := by rw [eNeg_q, h]; rfl
theorem e_chain {g1 g2 : Int → Int → Bool} (h1 : fa env = some (.p (.int a), e1)) (h2 : fb e1 = some (.p (.int b), e2)) (h3 : fc e2 = some (.p (.int m), e2)) : eChain g1 g2 fa fb fc env = some (.p (.bl (g1 a b && g2 b m)), e2) := by
  rw [eChain_q, h1, bindS, kCh1_q, h2, bindS, kCh2_q]
  cases g1 a b with
  | true => rw [if_pos rfl, h3, bindS, kCh3_q]; rfl
  | false => rfl
-- operators on typed things
theorem g_mul (h : mulN a b = some m) : gMul (.int a) (.int b) = some (.int m) := by
  unfold mulN at h
  split at h
  · rename_i c; cases h; exact if_pos c
  · cases h
theorem g_mulA (h : mulN a b = some m) : gMulA (.int a) (.int b) = some (.int m) := g_mul h
theorem g_div (h : divN a b = some m) : gDiv (.int a) (.int b) = some (.int m) := by
  unfold divN at h
  split at h
  · rename_i c; cases h; exact if_pos c
  · cases h
theorem g_mod (h : modN a b = some m) : gMod (.int a) (.int b) = some (.int m) := by
  unfold modN at h
  split at h
  · rename_i c; cases h; exact if_pos c
  · cases h
theorem g_pow (h : powN a b = some m) : gPow (.int a) (.int b) = some (.int m) := by
  unfold powN at h
  split at h
  · rename_i c; cases h; exact if_pos c
  · cases h
def litM (b : Int) : Bool := decide (-18446744073709551616 < b ∧ b < 18446744073709551616)
theorem g_mulR (h : litM b = true) : gMul (.int a) (.int b) = some (.int (a * b)) := gMul_r (of_decide_eq_true h).1 (of_decide_eq_true h).2
theorem g_mulL (h : litM a = true) : gMul (.int a) (.int b) = some (.int (a * b)) := gMul_l (of_decide_eq_true h).1 (of_decide_eq_true h).2
theorem g_divR (h : decide (0 < b ∧ b < 1606938044258990275541962092341162602522202993782792835301376) = true) : gDiv (.int a) (.int b) = some (.int (a / b)) := gDiv_i (of_decide_eq_true h).1 (of_decide_eq_true h).2
theorem g_modR (h : decide (0 < b) = true) : gMod (.int a) (.int b) = some (.int (a % b)) := gMod_i (of_decide_eq_true h)
theorem g_powR (h : decide (0 ≤ b ∧ b ≤ 1000 ∧ 0 ≤ a ∧ a < 18446744073709551616) = true) : gPow (.int a) (.int b) = some (.int (a ^ b.toNat)) := gPow_i (of_decide_eq_true h).1 (of_decide_eq_true h).2.1 (of_decide_eq_true h).2.2.1 (of_decide_eq_true h).2.2.2
theorem g_cat (h : catS p q = some r) : gAdd (eS p) (eS q) = some (eS r) := by
  unfold catS at h
  split at h
  · rename_i c; cases h; exact gAdd_g c
  · cases h
theorem g_rep (h : repN p a = some q) : gMulA (eS p) (.int a) = some (eS q) := by
  unfold repN at h
  split at h
  · rename_i c; cases h; exact gMulA_g c.1 c.2.1 c.2.2
  · cases h
theorem g_ne {r : Bool} (h : eqQ x y = some r) : neQ x y = some (!r) := by unfold neQ; rw [h]; rfl
theorem g_nin {r : Bool} (h : inQ x y = some r) : notInQ x y = some (!r) := by unfold notInQ; rw [h]; rfl
theorem g_inL (p : Nm) (xs : List Nm) : inQ (eS p) (eLs eS xs) = some (decide (p ∈ xs)) := by
  have := inQ_strs (sg p) (xs.map sg)
  rw [List.map_map] at this
  show inQ (.str (sg p)) (.lst (xs.map eS)) = _
  rw [show xs.map eS = xs.map (D.str ∘ sg) from rfl, this]
  congr 1
  apply decide_eq_decide.mpr
  rw [List.mem_map]
  exact ⟨fun ⟨y, h1, h2⟩ => by rw [← sg_inj.mp h2]; exact h1, fun h => ⟨p, h, rfl⟩⟩
theorem g_inT (p : Nm) (xs : List Nm) : inQ (eS p) (eSq eS xs) = some (decide (p ∈ xs)) := g_inL p xs
theorem g_inS (p q : Nm) : inQ (eS p) (eS q) = some (inStr (sg p) (sg q)) := rfl
theorem g_isO {e : α → D} (he : ∀ v, isN (e v) .non = some false) : ∀ o : Option α, isN (eO e o) .non = some o.isNone
  | none => rfl
  | some v => he v
theorem g_isnt {r : Bool} (h : isN x .non = some r) : isNotN x .non = some (!r) := by unfold isNotN; rw [h]; rfl
theorem e_some {e : α → D} {o : Option α} {v : α} {env' : Env} (h : f env = some (.p (eO e o), env')) (ho : o = some v) : f env = some (.p (e v), env') := by subst ho; exact h
-- tests
theorem c_t {r : Bool} (h : f env = some (.p (.bl r), e)) : cT f env = some (r, e) := by rw [cT_q, h]; rfl
theorem c_not {r : Bool} (h : c env = some (r, e)) : cNot c env = some (!r, e) := by rw [cNot_q, h]; rfl
theorem c_and {r s : Bool} (h : c env = some (r, e)) (h2 : c2 e = some (s, e)) : cAnd c c2 env = some (r && s, e) := by
  rw [cAnd_q, h, bindS]; cases r
  · rfl
  · exact h2
theorem c_or {r s : Bool} (h : c env = some (r, e)) (h2 : c2 e = some (s, e)) : cOr c c2 env = some (r || s, e) := by
  rw [cOr_q, h, bindS]; cases r
  · exact h2
  · rfl
theorem c_andO {r s : Bool} {o : Option Bool} (h : c env = some (r, e)) (ho : (if r = true then o else some false) = some s) (h2 : r = true → o = some s → c2 e = some (s, e)) : cAnd c c2 env = some (s, e) := by
  rw [cAnd_q, h, bindS]; cases r
  · cases ho; rfl
  · exact h2 rfl ho
theorem c_orO {r s : Bool} {o : Option Bool} (h : c env = some (r, e)) (ho : (if r = true then some true else o) = some s) (h2 : r = false → o = some s → c2 e = some (s, e)) : cOr c c2 env = some (s, e) := by
  rw [cOr_q, h, bindS]; cases r
  · exact h2 rfl ho
  · cases ho; rfl
theorem e_not {r : Bool} (h : f env = some (.p (.bl r), e)) : eNot f env = some (.p (.bl (!r)), e) := by rw [eNot_q, c_t h]; rfl
theorem e_and {r s : Bool} (h : fa env = some (.p (.bl r), e)) (h2 : fb e = some (.p (.bl s), e)) : eAnd fa fb env = some (.p (.bl (r && s)), e) := by
  rw [eAnd_q, c_t h, bindS]; cases r
  · rfl
  · exact h2
theorem e_or {r s : Bool} (h : fa env = some (.p (.bl r), e)) (h2 : fb e = some (.p (.bl s), e)) : eOr fa fb env = some (.p (.bl (r || s)), e) := by
  rw [eOr_q, c_t h, bindS]; cases r
  · exact h2
  · rfl
theorem e_andO {r s : Bool} {o : Option Bool} (h : fa env = some (.p (.bl r), e)) (ho : (if r = true then o else some false) = some s) (h2 : r = true → o = some s → fb e = some (.p (.bl s), e)) : eAnd fa fb env = some (.p (.bl s), e) := by
  rw [eAnd_q, c_t h, bindS]; cases r
  · cases ho; rfl
  · exact h2 rfl ho
theorem e_orO {r s : Bool} {o : Option Bool} (h : fa env = some (.p (.bl r), e)) (ho : (if r = true then some true else o) = some s) (h2 : r = false → o = some s → fb e = some (.p (.bl s), e)) : eOr fa fb env = some (.p (.bl s), e) := by
  rw [eOr_q, c_t h, bindS]; cases r
  · exact h2 rfl ho
  · cases ho; rfl
theorem e_if {E : α → T} {r : Bool} {x y : α} (h : c env = some (r, e)) (h1 : fa e = some (E x, e1)) (h2 : fb e = some (E y, e1)) : eIf c fa fb env = some (E (if r = true then x else y), e1) := by
  rw [eIf_q, h, bindS]; cases r
  · exact h2
  · exact h1
theorem e_ifO {E : α → T} {r : Bool} {x y : Option α} {v : α} (h : c env = some (r, e)) (ho : (if r = true then x else y) = some v) (h1 : r = true → x = some v → fa e = some (E v, e1)) (h2 : r = false → y = some v → fb e = some (E v, e1)) : eIf c fa fb env = some (E v, e1) := by
  rw [eIf_q, h, bindS]; cases r
  · exact h2 rfl ho
  · exact h1 rfl ho
-- calls
theorem e_b1 {g : T → Option D} (h : f env = some (t, e)) (hg : g t = some d) : eB1 g f env = some (.p d, e) := by rw [eB1_q, h, bindS, kB1_q, hg]; rfl
theorem g_lenL (xs : List α) (dd : α → D) : gLen (.p (.lst (xs.map dd))) = some (.int (xs.length : Int)) := by rw [gLen_p, List.length_map]
theorem g_lenQ (xs : List α) (dd : α → D) : gLen (.p (.tup (xs.map dd))) = some (.int (xs.length : Int)) := by show some (D.int ((xs.map dd).length : Int)) = _; rw [List.length_map]
theorem g_lenO (xs : List α) (dd : α → D) : gLen (oL dd xs) = some (.int (xs.length : Int)) := by rw [gLen_l, List.length_map, List.length_map]
theorem g_lenE (xs : List α) (E : α → T) : gLen (oE E xs) = some (.int (xs.length : Int)) := by rw [gLen_l, List.length_map]
theorem g_lenS (h : lenS p = some m) : gLen (.p (eS p)) = some (.int m) := by
  unfold lenS at h
  split at h
  · rename_i c; cases h; exact gLen_g c
  · cases h
theorem g_sum (xs : List Int) : gSum (.p (.lst (xs.map D.int))) = some (.int xs.sum) := gSum_p
theorem g_sumO (xs : List Int) : gSum (oL D.int xs) = some (.int xs.sum) := gSum_l
theorem g_strI (h : strN a = some p) : gStr (.p (.int a)) = some (eS p) := by
  unfold strN at h
  split at h
  · rename_i c; cases h; exact gStr_i (by omega) (by omega)
  · cases h
theorem g_strS (p : Nm) : gStr (.p (eS p)) = some (eS p) := rfl
theorem bools_map : ∀ bs : List Bool, boolsD (bs.map D.bl) = some bs
  | [] => rfl
  | b :: bs => by show (boolsD (bs.map D.bl)).map _ = _; rw [bools_map bs]; rfl
theorem g_all (bs : List Bool) : gAll (.p (.lst (bs.map D.bl))) = some (.bl (bs.all id)) := by show (boolsD (bs.map D.bl)).map _ = _; rw [bools_map]; rfl
theorem g_any (bs : List Bool) : gAny (.p (.lst (bs.map D.bl))) = some (.bl (bs.any id)) := by show (boolsD (bs.map D.bl)).map _ = _; rw [bools_map]; rfl
theorem g_allO (bs : List Bool) : gAll (oL D.bl bs) = some (.bl (bs.all id)) := by unfold gAll; rw [oL_toD]; exact g_all bs
theorem g_anyO (bs : List Bool) : gAny (oL D.bl bs) = some (.bl (bs.any id)) := by unfold gAny; rw [oL_toD]; exact g_any bs
theorem e_i2 {g : Int → Int → Int} (h : ra env = some ([.p (.int a), .p (.int b)], e)) : eI2 g ra env = some (.p (.int (g a b)), e) := by rw [eI2_q, h]; rfl
theorem e_isi {ty : String} {r : Bool} (h : f env = some (t, e)) (hd : t.toD = d) (hk : tyOk d = true) (hr : kitB (tyD d) ty = some r) : eIsi ty f env = some (.p (.bl r), e) := by rw [eIsi_q, h, bindS, kIsi_q, hd, if_pos hk, hr]; rfl
def isiN (ty : String) (d : D) : Option Bool := if tyOk d = true then kitB (tyD d) ty else none
theorem e_isiN {ty : String} {r : Bool} (h : f env = some (t, e)) (hd : t.toD = d) (hr : isiN ty d = some r) : eIsi ty f env = some (.p (.bl r), e) := by
  unfold isiN at hr
  split at hr
  · rename_i c; exact e_isi h hd c hr
  · cases hr
theorem e_list (h : f env = some (t, e)) (hi : itemsT t = some ds) (hd : ds.map T.p = ts) : eList f env = some (.lst ts, e) := by rw [eList_q, h, bindS, kList_q, hi, ← hd]; rfl
theorem e_tuple (h : f env = some (t, e)) (hi : itemsT t = some ds) : eTuple f env = some (.p (.tup ds), e) := by rw [eTuple_q, h, bindS, kTuple_q, hi]; rfl
theorem it_p (xs : List α) (dd : α → D) : itemsT (.p (.lst (xs.map dd))) = some (xs.map dd) := rfl
theorem it_q (xs : List α) (dd : α → D) : itemsT (.p (.tup (xs.map dd))) = some (xs.map dd) := rfl
theorem it_o (xs : List α) (dd : α → D) : itemsT (oL dd xs) = some (xs.map dd) := itemsT_l
theorem e_call {φ : List D → Option T} (h : ra env = some (ts, e)) (hp : allP ts = some ds) (hc : φ ds = some t) : eCall φ ra env = some (t, e) := by rw [eCall_q, h, bindS, kCall_q, hp, bindS, kCall2_q, hc]; rfl
theorem e_callB {φ : List D → Option T} (h : ra env = some (ts, e)) (hp : T.toDs ts = ds) (hc : φ ds = some t) (hk : cleanT t = true) : eCallB φ ra env = some (t, e) := by rw [eCallB_q, h, bindS, kCallB_q, hp, hc, bindS, kCl_q, if_pos hk]
theorem cl_l {dd : α → D} (h : ∀ x, cleanT (.p (dd x)) = true) : ∀ xs : List α, cleanT (oL dd xs) = true
  | [] => rfl
  | x :: xs => by
    have := cl_l h xs
    show (cleanT (.p (dd x)) && cleanTs ((xs.map dd).map T.p)) = true
    rw [h x]; exact this
-- items
theorem e_ix (h1 : fa env = some (t, e1)) (h2 : fi e1 = some (.p (.int a), e2)) (h : ixT t a = some u) : eIx fa fi env = some (u, e2) := by rw [eIx_q, h1, bindS, kIx1_q, h2, bindS, kIx2_q, h]; rfl
theorem x_l {xs : List α} {dd : α → D} {x : α} (h : atI xs a = some x) : ixT (.p (.lst (xs.map dd))) a = some (.p (dd x)) := by rw [ixT_pl, atI_map, h]; rfl
theorem x_q {xs : List α} {dd : α → D} {x : α} (h : atI xs a = some x) : ixT (.p (.tup (xs.map dd))) a = some (.p (dd x)) := by rw [ixT_pt, atI_map, h]; rfl
theorem x_o {xs : List α} {dd : α → D} {x : α} (h : atI xs a = some x) : ixT (oL dd xs) a = some (.p (dd x)) := by rw [ixT_lst, atI_map, atI_map, h]; rfl
theorem x_e {xs : List α} {E : α → T} {x : α} (h : atI xs a = some x) : ixT (oE E xs) a = some (E x) := by rw [ixT_lst, atI_map, h]; rfl
theorem x_s (h : ixS p a = some q) : ixT (.p (eS p)) a = some (.p (eS q)) := by
  unfold ixS at h
  split at h
  · rename_i c
    obtain ⟨z, h1, rfl⟩ := omap h
    rw [ixT_sg c, h1]; rfl
  · cases h
theorem x_t (n : Nat) (h : ds[n]? = some d) : ixT (.p (.tup ds)) (n : Int) = some (.p d) := by
  rw [ixT_pt]
  have : atI ds (n : Int) = some d := atI_nat h
  rw [this]; rfl
theorem x_u (n : Nat) (h : ts[n]? = some t) : ixT (.tup ts) (n : Int) = some t := by
  show atI ts (n : Int) = _
  exact atI_nat h
def ixD (d : D) (i : Int) : Option D := match ixT (.p d) i with
  | some (.p x) => some x
  | _ => none
theorem x_d (h : ixD d a = some x) : ixT (.p d) a = some (.p x) := by
  unfold ixD at h
  split at h
  · rename_i y e; cases h; exact e
  · cases h
theorem o_n : oN env = some (none, env) := rfl
theorem o_s (h : f env = some (.p (.int a), e)) : oS f env = some (some a, e) := by rw [oS_q, h]; rfl
theorem e_sl {lo hi : OF} {l r : Option Int} (h1 : fa env = some (t, e1)) (h2 : lo e1 = some (l, e2)) (h3 : hi e2 = some (r, e3)) (h : cutT t l r = some u) : eSl fa lo hi env = some (u, e3) := by rw [eSl_q, h1, bindS, kSl1_q, h2, bindS, kSl2_q, h3, bindS, kSl3_q, h]; rfl
theorem s_l {xs : List α} {dd : α → D} {l r : Option Int} : cutT (.p (.lst (xs.map dd))) l r = some (oL dd (cutA xs l r)) := by rw [cutT_p, cutD_map]
theorem s_o {xs : List α} {dd : α → D} {l r : Option Int} : cutT (oL dd xs) l r = some (oL dd (cutA xs l r)) := by rw [cutT_l, cutD_map]
theorem cutS_g (l : Nm) (lo hi : Option Int) : cutS (sg l) lo hi = sg (cutA l lo hi) := rfl
theorem s_s {l r : Option Int} (h : cutN p l r = some q) : cutT (.p (eS p)) l r = some (.p (eS q)) := by
  unfold cutN at h
  split at h
  · rename_i c; cases h; rw [cutT_s (by rw [sg_len]; exact c), cutS_g]
  · cases h
-- lists joined
theorem e_cat {xs ys zs : List α} {dd : α → D} (h1 : fa env = some (t, e1)) (h2 : fb e1 = some (u, e2)) (i1 : itemsT t = some (xs.map dd)) (i2 : itemsT u = some (ys.map dd)) (l1 : isLT t = true) (l2 : isLT u = true) (h : catL xs ys = some zs) : eCat fa fb env = some (oL dd zs, e2) := by
  unfold catL at h
  split at h
  · rename_i c
    cases h
    unfold eCat
    rw [h1]
    show (fb e1).bind _ = _
    rw [h2]
    show (itemsT t).bind _ = _
    rw [i1]
    show (itemsT u).bind _ = _
    rw [i2]
    show (if isLT t = true ∧ isLT u = true ∧ (xs.map dd).length + (ys.map dd).length ≤ 16777216 then _ else _) = _
    rw [if_pos ⟨l1, l2, by rw [List.length_map, List.length_map]; exact c⟩]
    simp only [oL, List.map_append]
  · cases h
-- walks' items
theorem i_l (h : f env = some (.p (.lst ds), e)) : iL f env = some (ds, e) := by rw [iL_q, h]; rfl
theorem i_tp (h : f env = some (.p (.tup ds), e)) : iTp f env = some (ds, e) := by rw [iTp_q, h]; rfl
theorem i_sg (h : f env = some (.p (eS p), e)) : iSg f env = some (p.map (fun c => eS [c]), e) := by rw [iSg_q, h]; rfl
theorem rngD_N (lo : Int) (n : Nat) : rngD lo n = (rngN lo n).map D.int := by unfold rngD rngN; rw [List.map_map]; rfl
theorem i_r1 {xs : List Int} (h : ra env = some ([.p (.int a)], e)) (hx : rng1 a = some xs) : iR1 ra env = some (xs.map D.int, e) := by
  unfold rng1 at hx
  split at hx
  · rename_i c; cases hx; rw [iR1_q, h, bindS, kR1_q c.2 c.1, rngD_N]
  · cases hx
theorem i_r2 {xs : List Int} (h : ra env = some ([.p (.int a), .p (.int b)], e)) (hx : rng2 a b = some xs) : iR2 ra env = some (xs.map D.int, e) := by
  unfold rng2 at hx
  split at hx
  · rename_i c; cases hx; rw [iR2_q, h, bindS, kR2_q c.1.2 c.1.1 c.2.2 c.2.1, rngD_N]
  · cases hx
theorem enumD_N {dd : α → D} : ∀ (k : Nat) (xs : List α), enumD k (xs.map dd) = (enumN k xs).map (eT2 D.int dd)
  | _, [] => rfl
  | k, x :: xs => by rw [List.map_cons, enumD, enumD_N (k + 1) xs]; rfl
theorem i_en {xs : List α} {dd : α → D} (h : ra env = some ([.p (.lst (xs.map dd))], e)) : iEn ra env = some ((enumN 0 xs).map (eT2 D.int dd), e) := by rw [iEn_q, h, bindS, kEn_q, enumD_N]
theorem zipD_N {da : α → D} {db : β → D} : ∀ (xs : List α) (ys : List β), zipD (xs.map da) (ys.map db) = (zipN xs ys).map (eT2 da db)
  | [], _ => by rw [List.map_nil]; unfold zipD zipN; rfl
  | x :: xs, [] => by rw [List.map_nil, List.map_cons]; rfl
  | x :: xs, y :: ys => by rw [List.map_cons, List.map_cons, zipD, zipD_N xs ys]; rfl
theorem i_zp {xs : List α} {ys : List β} {da : α → D} {db : β → D} (h : ra env = some ([.p (.lst (xs.map da)), .p (.lst (ys.map db))], e)) : iZp ra env = some ((zipN xs ys).map (eT2 da db), e) := by rw [iZp_q, h, bindS, kZp_q, zipD_N]
theorem i_sqL (h : f env = some (.p (.lst ds), e)) : iSq f env = some (ds, e) := by unfold iSq; rw [h]; rfl
theorem i_sqT (h : f env = some (.p (.tup ds), e)) : iSq f env = some (ds, e) := by unfold iSq; rw [h]; rfl
-- comprehensions
theorem mapO_len {f : α → Option β} : ∀ {xs : List α} {ys : List β}, mapO f xs = some ys → ys.length = xs.length
  | [], ys, h => by cases h; rfl
  | x :: xs, ys, h => by
    obtain ⟨y, h1, h2⟩ := obind h
    obtain ⟨zs, h3, rfl⟩ := omap h2
    rw [List.length_cons, List.length_cons, mapO_len h3]
theorem comp_go {own : List Nat} {elt : EF} {dd : α → D} {E : β → T} {p : α → Bool} {fn : α → Option β}
    (hb : ∀ x, ∃ e1, G (.p (dd x)) w = some e1 ∧ ∃ e2, test e1 = some (p x, e2) ∧ (p x = false → wipeE e2 own = w) ∧ ∀ y, p x = true → fn x = some y → ∃ e3, elt e2 = some (E y, e3) ∧ wipeE e3 own = w) :
    ∀ (xs : List α) (ys : List β), mapO fn (xs.filter p) = some ys → compD own G test elt (xs.map dd) w = some (ys.map E, w)
  | [], ys, h => by cases h; rfl
  | x :: xs, ys, h => by
    obtain ⟨e1, h1, e2, h2, h3, h4⟩ := hb x
    rw [List.map_cons, comp_c, h1, bindS, kCp1_q, h2, bindS]
    cases hp : p x with
    | false =>
      rw [List.filter_cons_of_neg (by rw [hp]; simp)] at h
      rw [kCp2_f, h3 hp]
      exact comp_go hb xs ys h
    | true =>
      rw [List.filter_cons_of_pos hp] at h
      obtain ⟨y, k1, k2⟩ := obind h
      obtain ⟨zs, k3, rfl⟩ := omap k2
      obtain ⟨e3, h5, h6⟩ := h4 y hp k1
      rw [kCp2_t, h5, bindS, kCp3_q, h6, comp_go hb xs zs k3, mapS, kCp4_q]; rfl
theorem mapO_some (g : α → β) : ∀ xs : List α, mapO (fun x => some (g x)) xs = some (xs.map g)
  | [] => rfl
  | x :: xs => by show ((mapO (fun x => some (g x)) xs).map (g x :: ·)) = _; rw [mapO_some g xs]; rfl
theorem e_comp {own : List Nat} {elt : EF} {dd : α → D} {E : β → T} {p : α → Bool} {fn : α → Option β} {xs : List α} {ys : List β} (hi : it env = some (xs.map dd, e)) (hw : wipeE e own = w) (h : compOF p fn xs = some ys)
    (hb : ∀ x, ∃ e1, G (.p (dd x)) w = some e1 ∧ ∃ e2, test e1 = some (p x, e2) ∧ (p x = false → wipeE e2 own = w) ∧ ∀ y, p x = true → fn x = some y → ∃ e3, elt e2 = some (E y, e3) ∧ wipeE e3 own = w) :
    eComp own it G test elt env = some (oE E ys, w) := by
  unfold compOF at h
  split at h
  · rename_i c
    rw [eComp_q, hi, bindS, kComp_q, if_pos (by rw [List.length_map]; exact c), hw, comp_go hb xs ys h]; rfl
  · cases h
theorem compO_F (fn : α → Option β) (xs : List α) : compO fn xs = compOF (fun _ => true) fn xs := by
  unfold compO compOF
  rw [List.filter_eq_self.mpr fun _ _ => rfl]
theorem compTF_F (p : α → Bool) (g : α → β) (xs : List α) : compTF p g xs = compOF p (fun x => some (g x)) xs := by
  unfold compTF compOF
  rw [mapO_some]
theorem compT_F (g : α → β) (xs : List α) : compT g xs = compOF (fun _ => true) (fun x => some (g x)) xs := by
  unfold compT compOF
  rw [mapO_some, List.filter_eq_self.mpr fun _ _ => rfl]
theorem oE_p (e : α → D) (xs : List α) : oE (pE e) xs = oL e xs := by show T.lst _ = T.lst _; rw [List.map_map]; rfl
end
end DL

set_option Elab.async false
set_option linter.all false
set_option maxRecDepth 100000
/-! Natives: the rules of statements that change lists and dicts. -/
namespace DL
open PySem PySem.Spec PyProof.Rows L2
section
variable {env e e1 e2 e3 w : Env} {f fa fb fc fi fo fk fx : EF} {ra : AF} {c c2 test : CF} {G : GF} {it : IF} {A B F : SF} {Q : Fl → Env → Prop} {t u v : T} {ts us : List T} {d x y z : D} {ds es : List D} {i j k n : Nat} {a b m : Int} {p q : Nm} {α β κ σ ρ : Type}
theorem w_app {xs : List T} {ys : List T} (h0 : env[i]? = some (some (.lst xs))) (h : f env = some (t, e)) (h1 : e[i]? = some (some (.lst ys))) (hl : ys.length < 16000000) : sApp i f env = some (.nx, e.set i (some (.lst (ys ++ [t])))) := by
  rw [sApp_q, atL_q, h0, kAtL_q, bindS, kApp_q, h, bindS, kApp1_q, atL_q, h1, kAtL_q, bindS, kApp2_q, if_pos hl]
/-- xs.append(x), xs an own list of frozen things -/
theorem w_appL {xs zs : List α} {dd : α → D} {x : α} (h0 : env[i]? = some (some (oL dd xs))) (h : f env = some (.p (dd x), e)) (h1 : e[i]? = some (some (oL dd xs))) (hp : push xs x = some zs) : sApp i f env = some (.nx, e.set i (some (oL dd zs))) := by
  unfold push at hp
  split at hp
  · rename_i c
    cases hp
    rw [w_app h0 h h1 (by rw [List.length_map, List.length_map]; exact c)]
    simp only [oL, List.map_append, List.map_cons, List.map_nil]
  · cases hp
/-- xs.append(x), xs an own list of own things -/
theorem w_appE {xs zs : List α} {E : α → T} {x : α} (h0 : env[i]? = some (some (oE E xs))) (h : f env = some (E x, e)) (h1 : e[i]? = some (some (oE E xs))) (hp : push xs x = some zs) : sApp i f env = some (.nx, e.set i (some (oE E zs))) := by
  unfold push at hp
  split at hp
  · rename_i c
    cases hp
    rw [w_app h0 h h1 (by rw [List.length_map]; exact c)]
    simp only [oE, List.map_append, List.map_cons, List.map_nil]
  · cases hp
theorem ixN_eq {n : Nat} {i : Int} {k : Nat} (h : ixN n i = some k) : k < n := by
  unfold ixN at h
  split at h
  · split at h
    · cases h; omega
    · cases h
  · split at h
    · cases h; omega
    · cases h
/-- xs[j] = x -/
theorem w_putL {xs zs : List α} {dd : α → D} {x : α} (h : f env = some (.p (dd x), e)) (h0 : e[i]? = some (some (oL dd xs))) (hj : fi e = some (.p (.int a), e1)) (h1 : e1[i]? = some (some (oL dd xs))) (hp : putI xs a x = some zs) : sPut i fi f env = some (.nx, e1.set i (some (oL dd zs))) := by
  obtain ⟨k, h2, rfl⟩ := omap hp
  rw [sPut_q, h, bindS, kPut_q, atL_q, h0, kAtL_q, bindS, kPut1_q, hj, bindS, kPut2_q, asI_q, bindS, kPut3_q, atL_q, h1, kAtL_q, bindS, kPut4_q, List.length_map, List.length_map, h2, mapS, kPutEnd_q]
  simp only [oL, List.map_set]
/-- xs[j] op= y -/
theorem w_augIx {hh : Int → Int → Int} {xs zs : List Int} {x y : Int} (h0 : env[i]? = some (some (oL D.int xs))) (hj : fi env = some (.p (.int a), e)) (h1 : e[i]? = some (some (oL D.int xs))) (hf : f e = some (.p (.int y), e1)) (h2 : e1[i]? = some (some (oL D.int xs)))
    (ha : 0 ≤ a) (hx : atI xs a = some x) (hp : putI xs a (hh x y) = some zs) : sAugIx i hh fi f env = some (.nx, e1.set i (some (oL D.int zs))) := by
  obtain ⟨k, h3, rfl⟩ := omap hp
  have hx2 : atI ((xs.map D.int).map T.p) a = some (.p (.int x)) := by rw [atI_map, atI_map, hx]; rfl
  rw [sAugIx_q, atL_q, h0, kAtL_q, bindS, kAx_q, hj, bindS, kAx0_q, asI_q, bindS, kAx1_q ha, atL_q, h1, kAtL_q, bindS, kAx2_q, hx2, bindS, kAx3_q, asI_q, bindS, kAx4_q, hf, bindS, kAx5_q, asI_q, bindS, kAx6_q, atL_q, h2, kAtL_q, bindS, kAx7_q, List.length_map, List.length_map, h3, mapS, kAx8_q]
  simp only [oL, List.map_set]
theorem w_addI {xs zs : List Int} {y : Int} (h0 : env[i]? = some (some (oL D.int xs))) (hj : fi env = some (.p (.int a), e)) (h1 : e[i]? = some (some (oL D.int xs))) (hf : f e = some (.p (.int y), e1)) (h2 : e1[i]? = some (some (oL D.int xs)))
    (hp : addI xs a y = some zs) : sAugIx i (fun i j => i + j) fi f env = some (.nx, e1.set i (some (oL D.int zs))) := by
  unfold addI at hp
  split at hp
  · rename_i c
    obtain ⟨x, h3, h4⟩ := obind hp
    exact w_augIx h0 hj h1 hf h2 c h3 h4
  · cases hp
theorem w_subI {xs zs : List Int} {y : Int} (h0 : env[i]? = some (some (oL D.int xs))) (hj : fi env = some (.p (.int a), e)) (h1 : e[i]? = some (some (oL D.int xs))) (hf : f e = some (.p (.int y), e1)) (h2 : e1[i]? = some (some (oL D.int xs)))
    (hp : subI xs a y = some zs) : sAugIx i (fun i j => i - j) fi f env = some (.nx, e1.set i (some (oL D.int zs))) := by
  unfold subI at hp
  split at hp
  · rename_i c
    obtain ⟨x, h3, h4⟩ := obind hp
    exact w_augIx h0 hj h1 hf h2 c h3 h4
  · cases hp
theorem w_aug {g : D → D → Option D} (h0 : env[i]? = some (some (.p x))) (h : f env = some (.p y, e)) (hg : g x y = some z) (hi : i < e.length) : sAug i g f env = some (.nx, e.set i (some (.p z))) := by
  rw [sAug_q, h0, kAug_q, h, bindS, kAug2_q, hg, bindS, kAug3_q, if_pos hi]
-- places that are names
theorem p_nm (h : env[i]? = some (some t)) : pNm i env = some ([], env) := by unfold pNm; rw [h]
theorem at_nm (h : env[i]? = some (some t)) : atP env i [] = some t := by unfold atP; rw [h]; rfl
theorem put_nm (h : env[i]? = some (some t)) : putP env i [] u = env.set i (some u) := by rw [putP_eq h]; rfl
theorem w_rev {xs : List α} {dd : α → D} (h : env[i]? = some (some (oL dd xs))) : sRevP i (pNm i) env = some (.nx, env.set i (some (oL dd xs.reverse))) := by
  unfold sRevP
  rw [p_nm h]
  show (atP env i []).bind _ = _
  rw [at_nm h]
  show some (Fl.nx, putP env i [] _) = _
  rw [put_nm h]
  show some (Fl.nx, env.set i (some (T.lst ((xs.map dd).map T.p).reverse))) = _
  rw [← List.map_reverse, ← List.map_reverse]
theorem w_ext {xs ys zs : List α} {dd : α → D} (h0 : env[i]? = some (some (oL dd xs))) (hf : f env = some (oL dd ys, e)) (h1 : e[i]? = some (some (oL dd xs))) (h : extL xs ys = some zs) : sExtP i (pNm i) f env = some (.nx, e.set i (some (oL dd zs))) := by
  unfold extL at h
  split at h
  · rename_i c
    cases h
    unfold sExtP
    rw [p_nm h0]
    show (atP env i []).bind _ = _
    rw [at_nm h0]
    show (f env).bind _ = _
    rw [hf]
    show (atP e i []).bind _ = _
    rw [at_nm h1]
    show (if ((xs.map dd).map T.p).length + ((ys.map dd).map T.p).length < 16000000 then some (Fl.nx, putP e i [] _) else none) = _
    rw [if_pos (by rw [List.length_map, List.length_map, List.length_map, List.length_map]; exact c), put_nm h1]
    show some (Fl.nx, e.set i (some (T.lst (((xs.map dd).map T.p) ++ ((ys.map dd).map T.p))))) = _
    simp only [oL, List.map_append]
  · cases h
theorem w_appP {xs zs : List α} {dd : α → D} {x : α} (h0 : env[i]? = some (some (oL dd xs))) (h : f env = some (.p (dd x), e)) (h1 : e[i]? = some (some (oL dd xs))) (hp : push xs x = some zs) : sAppP i (pNm i) f env = some (.nx, e.set i (some (oL dd zs))) := by
  unfold push at hp
  split at hp
  · rename_i c
    cases hp
    unfold sAppP
    rw [p_nm h0]
    show (atP env i []).bind _ = _
    rw [at_nm h0]
    show (f env).bind _ = _
    rw [h]
    show (atP e i []).bind _ = _
    rw [at_nm h1]
    show (if ((xs.map dd).map T.p).length < 16000000 then some (Fl.nx, putP e i [] _) else none) = _
    rw [if_pos (by rw [List.length_map, List.length_map]; exact c), put_nm h1]
    show some (Fl.nx, e.set i (some (T.lst (((xs.map dd).map T.p) ++ [.p (dd x)])))) = _
    simp only [oL, List.map_append, List.map_cons, List.map_nil]
  · cases hp
-- a walk over a list that is held back meanwhile
theorem w_forV {xs : List α} {dd : α → D} {P : Env → Prop} (h : env[i]? = some (some (oL dd xs))) (hl : ∃ e2, loopD G F (xs.map dd) (env.set i none) = some (.nx, e2) ∧ P e2) (k : ∀ e, P e → Wp (B (e.set i (some (oL dd xs)))) Q) : Wp (sSeq (sForV i G F) B env) Q := by
  obtain ⟨e2, h1, p⟩ := hl
  refine w_seq ?_ (k e2 p)
  rw [sForV_q, atL_q, h, kAtL_q, bindS, kForV_q, allP_map, bindS, kForV1_q, h1]; rfl
theorem w_forVB {τ : Type} {R : σ → Env → Prop} {ET : ρ → T} {o : Lp σ ρ} {kk : σ → Option τ} {ww : ρ → Option τ} {r : τ} {xs : List α} {dd : α → D} (hi : env[i]? = some (some (oL dd xs)))
    (hl : ∃ fl e2, loopD G F (xs.map dd) (env.set i none) = some (fl, e2) ∧ (match o with | .nx s => fl = .nx ∧ R s e2 | .rt r => fl = .rt (ET r) | .bk _ => False))
    (h : lpK kk ww o = some r) (hk : ∀ s e, R s e → kk s = some r → Wp (B (e.set i (some (oL dd xs)))) Q) (hw : ∀ v e, ww v = some r → Q (.rt (ET v)) e) : Wp (sSeq (sForV i G F) B env) Q := by
  obtain ⟨fl, e2, h1, p⟩ := hl
  cases o with
  | nx s =>
    obtain ⟨rfl, p⟩ := p
    exact w_seq (by rw [sForV_q, atL_q, hi, kAtL_q, bindS, kForV_q, allP_map, bindS, kForV1_q, h1]; rfl) (hk s e2 p h)
  | rt v =>
    have p : fl = .rt (ET v) := p
    subst p
    exact ⟨.rt (ET v), e2, by rw [sSeq_q, sForV_q, atL_q, hi, kAtL_q, bindS, kForV_q, allP_map, bindS, kForV1_q, h1]; rfl, hw v e2 h⟩
  | bk s => exact p.elim
-- dicts
section
variable [DecidableEq β] {kk : β → Key} {dd : α → D}
theorem val_lk (hk : ∀ a b, kk a = kk b → a = b) : ∀ (kv : List (β × α)) (k : β), valD (kv.map fun p => (kk p.1, dd p.2)) (kk k) = (lkN kv k).map dd
  | [], k => rfl
  | (j, x) :: r, k => by
    rw [List.map_cons, valD_cons, val_lk hk r k]
    unfold lkN
    by_cases c : j = k
    · subst c; simp
    · rw [if_neg fun h => c (hk _ _ h)]
      simp [c]
theorem any_lk (hk : ∀ a b, kk a = kk b → a = b) (kv : List (β × α)) (k : β) : ((kv.map fun p => (kk p.1, dd p.2)).any fun p => decide (p.1 = kk k)) = (kv.any fun p => decide (p.1 = k)) := by
  rw [List.any_map]
  congr 1
  funext p
  show decide (kk p.1 = kk k) = decide (p.1 = k)
  exact decide_eq_decide.mpr ⟨hk _ _, fun h => by rw [h]⟩
theorem put_lk (hk : ∀ a b, kk a = kk b → a = b) (kv : List (β × α)) (k : β) (x : α) : putD (kv.map fun p => (kk p.1, dd p.2)) (kk k) (dd x) = (putN kv k x).map fun p => (kk p.1, dd p.2) := by
  unfold putD putN
  rw [any_lk hk]
  split
  · rw [List.map_map, List.map_map]
    apply List.map_congr_left
    intro p _
    show (if kk p.1 = kk k then _ else _) = _
    by_cases c : p.1 = k
    · rw [if_pos (by rw [c])]; simp [c]
    · rw [if_neg fun h => c (hk _ _ h)]; simp [c]
  · rw [List.map_append]; rfl
theorem mk_lk (hk : ∀ a b, kk a = kk b → a = b) (ps : List (β × α)) : mergeD [] (ps.map fun p => (kk p.1, dd p.2)) = (mkK ps).map fun p => (kk p.1, dd p.2) := by
  unfold mergeD mkK
  have go : ∀ (ps acc : List (β × α)), (ps.map fun p => (kk p.1, dd p.2)).foldl (fun acc kv => putD acc kv.1 kv.2) (acc.map fun p => (kk p.1, dd p.2)) = (ps.foldl (fun acc p => putN acc p.1 p.2) acc).map fun p => (kk p.1, dd p.2) := by
    intro ps
    induction ps with
    | nil => intro acc; rfl
    | cons p ps ih =>
      intro acc
      rw [List.map_cons, List.foldl_cons, List.foldl_cons, put_lk hk, ih]
  exact go ps []
theorem kS_inj : ∀ a b, kS a = kS b → a = b := fun a b h => sg_inj.mp (Sum.inr.inj h)
theorem kI_inj : ∀ a b, kI a = kI b → a = b := fun a b h => Sum.inl.inj h
theorem dic_o (kv : List (β × α)) : dicT (oK kk dd kv) = some (kv.map fun p => (kk p.1, dd p.2)) := dicT_o
theorem e_dn : eDn env = some (oK kk dd [], env) := rfl
theorem e_dix (hk : ∀ a b, kk a = kk b → a = b) {kv : List (β × α)} {k : β} {x : α} (h1 : fo env = some (t, e1)) (hd : dicT t = some (kv.map fun p => (kk p.1, dd p.2))) (h2 : fi e1 = some (u, e2)) (h3 : keyT u = some (kk k)) (h : lkN kv k = some x) : eDix fo fi env = some (.p (dd x), e2) := by
  unfold eDix
  rw [h1]
  show (fi e1).bind _ = _
  rw [h2]
  show (dicT t).bind _ = _
  rw [hd]
  show (keyT u).bind _ = _
  rw [h3]
  show (valD _ _).map _ = _
  rw [val_lk hk, h]; rfl
theorem e_dget (hk : ∀ a b, kk a = kk b → a = b) {kv : List (β × α)} {k : β} {z : α} (h1 : fo env = some (t, e1)) (hd : dicT t = some (kv.map fun p => (kk p.1, dd p.2))) (h2 : fi e1 = some (u, e2)) (h3 : keyT u = some (kk k)) (h4 : fx e2 = some (.p (dd z), e3)) : eDget fo fi fx env = some (.p (dd ((lkN kv k).getD z)), e3) := by
  unfold eDget
  rw [h1]
  show (fi e1).bind _ = _
  rw [h2]
  show (fx e2).bind _ = _
  rw [h4]
  show (dicT t).bind _ = _
  rw [hd]
  show (keyT u).bind _ = _
  rw [h3]
  show some (T.p ((valD _ _).getD _), e3) = _
  rw [val_lk hk]
  cases lkN kv k <;> rfl
theorem e_din (hk : ∀ a b, kk a = kk b → a = b) {b : Bool} {kv : List (β × α)} {k : β} (h2 : fi env = some (u, e1)) (h1 : fo e1 = some (t, e2)) (hd : dicT t = some (kv.map fun p => (kk p.1, dd p.2))) (h3 : keyT u = some (kk k)) : eDin b fi fo env = some (.p (.bl (if b then (lkN kv k).isSome else !(lkN kv k).isSome)), e2) := by
  unfold eDin
  rw [h2]
  show (fo e1).bind _ = _
  rw [h1]
  show (dicT t).bind _ = _
  rw [hd]
  show (keyT u).bind _ = _
  rw [h3]
  show some _ = _
  rw [val_lk hk]
  cases lkN kv k <;> rfl
theorem w_putD (hk : ∀ a b, kk a = kk b → a = b) {kv kv2 : List (β × α)} {k : β} {x : α} (h : f env = some (.p (dd x), e)) (h0 : e[i]? = some (some (oK kk dd kv))) (hj : fk e = some (u, e1)) (h3 : keyT u = some (kk k)) (h1 : e1[i]? = some (some (oK kk dd kv))) (hp : putK kv k x = some kv2) : sPutD i fk f env = some (.nx, e1.set i (some (oK kk dd kv2))) := by
  unfold putK at hp
  split at hp
  · rename_i c
    cases hp
    have g : ∀ e : Env, e[i]? = some (some (oK kk dd kv)) → atD e i = some (kv.map fun p => (kk p.1, dd p.2)) := fun e he => by rw [atD_q, he]; exact dic_o kv
    unfold sPutD
    rw [h]
    show (atD e i).bind _ = _
    rw [g e h0]
    show (fk e).bind _ = _
    rw [hj]
    show (keyT u).bind _ = _
    rw [h3]
    show (atD e1 i).bind _ = _
    rw [g e1 h1]
    show (if (kv.map fun p => (kk p.1, dd p.2)).length < 16000000 then _ else _) = _
    rw [if_pos (by rw [List.length_map]; exact c), put_lk hk]
  · cases hp
theorem e_dictP {da : β → D} (hk : ∀ a b, kk a = kk b → a = b) (hd : ∀ b, keyD (da b) = some (kk b)) {ps : List (β × α)} (h : f env = some (t, e)) (hi : itemsT t = some (ps.map (eT2 da dd))) (hl : isLT t = true) : eDictP f env = some (oK kk dd (mkK ps), e) := by
  have hp : ∀ ps : List (β × α), pairsD (ps.map (eT2 da dd)) = some (ps.map fun p => (kk p.1, dd p.2)) := by
    intro ps
    induction ps with
    | nil => rfl
    | cons p ps ih =>
      rw [List.map_cons]
      show (keyD (da p.1)).bind _ = _
      rw [hd]
      show (pairsD (ps.map (eT2 da dd))).map _ = _
      rw [ih]; rfl
  unfold eDictP
  rw [h]
  show (itemsT t).bind _ = _
  rw [hi]
  show (if isLT t = true then (pairsD _).map _ else none) = _
  rw [if_pos hl, hp]
  show some (T.dic (pairsT (mergeD [] _)), e) = _
  rw [mk_lk hk]
theorem keyS (p : Nm) : keyT (.p (eS p)) = some (kS p) := rfl
theorem keyI (a : Int) : keyT (.p (.int a)) = some (kI a) := rfl
end
end
end DL
namespace DL
open PySem PySem.Spec PyProof.Rows L2
abbrev eD (d : D) : D := d
section
variable {env e e1 : Env} {f : EF} {t : T} {ts : List T} {d : D} {ds : List D} {i : Nat} {α β : Type}
theorem u_p (d : D) : (T.p d).toD = d := rfl
theorem u_n : T.toDs [] = [] := rfl
theorem eD_map (ds : List D) : ds.map T.p = (ds.map eD).map T.p := by rw [show (eD : D → D) = id from rfl, List.map_id]
theorem u_c (h : t.toD = d) (hs : T.toDs ts = ds) : T.toDs (t :: ts) = d :: ds := by show t.toD :: T.toDs ts = _; rw [h, hs]
theorem u_t (hs : T.toDs ts = ds) : (T.tup ts).toD = .tup ds := by show D.tup (T.toDs ts) = _; rw [hs]
theorem u_l (hs : T.toDs ts = ds) : (T.lst ts).toD = .lst ds := by show D.lst (T.toDs ts) = _; rw [hs]
theorem w_set2 {e' : Env} (h : f env = some (t, e)) (hi : Nat.ble (i + 1) e.length = true) (he : e.set i (some t) = e') : sSet i f env = some (.nx, e') := by rw [← he]; exact w_set h (Nat.le_of_ble_eq_true hi)
theorem w_aug2 {g : D → D → Option D} {x y z : D} {e' : Env} (h0 : env[i]? = some (some (.p x))) (h : f env = some (.p y, e)) (hg : g x y = some z) (hi : Nat.ble (i + 1) e.length = true) (he : e.set i (some (.p z)) = e') : sAug i g f env = some (.nx, e') := by rw [← he]; exact w_aug h0 h hg (Nat.le_of_ble_eq_true hi)
theorem e_compP {own : List Nat} {w : Env} {G : GF} {test : CF} {it : IF} {elt : EF} {dd : α → D} {E : β → D} {p : α → Bool} {fn : α → Option β} {xs : List α} {ys : List β} (hi : it env = some (xs.map dd, e)) (hw : wipeE e own = w) (h : compOF p fn xs = some ys)
    (hb : ∀ x, ∃ e1, G (.p (dd x)) w = some e1 ∧ ∃ e2, test e1 = some (p x, e2) ∧ (p x = false → wipeE e2 own = w) ∧ ∀ y, p x = true → fn x = some y → ∃ e3, elt e2 = some (.p (E y), e3) ∧ wipeE e3 own = w) :
    eComp own it G test elt env = some (oL E ys, w) := by
  rw [← oE_p]
  exact e_comp (E := pE E) hi hw h hb
end
-- texts
def joinN (s : Nm) (ls : List Nm) : Option Nm := if (ls.map (·.length)).sum + ls.length * s.length ≤ 16777216 then some (TL.joinL s ls) else none
section
variable {env e e1 e2 w : Env} {f fa fb fo fe : EF} {t u : T} {A : SF} {Q : Fl → Env → Prop} {α β : Type} {p q r : Nm} {a : Int}
theorem w_un (h : Wp (A env) Q) : Wp (sSeq A sNx env) Q := by unfold Wp at *; rw [seq_one]; exact h
theorem ifs {τ : Type} {v : Bool} {n1 n2 : Option τ} {r : τ} {P : Prop} (h : (if v = true then n1 else n2) = some r) (h1 : v = true → n1 = some r → P) (h2 : v = false → n2 = some r → P) : P := by
  cases v with
  | true => exact h1 rfl h
  | false => exact h2 rfl h
def mapG (f : α → Option (Option β)) : List α → Option (List β)
  | [] => some []
  | x :: xs => (f x).bind fun o => match o with
    | none => mapG f xs
    | some y => (mapG f xs).map (y :: ·)
def compG (f : α → Option (Option β)) (xs : List α) : Option (List β) := if xs.length ≤ 1000000 then mapG f xs else none
theorem compG_go {own : List Nat} {G : GF} {test : CF} {elt : EF} {dd : α → D} {E : β → T} {fn : α → Option (Option β)}
    (hb : ∀ x o, fn x = some o → ∃ e1, G (.p (dd x)) w = some e1 ∧ ∃ b e2, test e1 = some (b, e2) ∧ ((b = false ∧ o = none ∧ wipeE e2 own = w) ∨ (b = true ∧ ∃ y, o = some y ∧ ∃ e3, elt e2 = some (E y, e3) ∧ wipeE e3 own = w))) :
    ∀ (xs : List α) (ys : List β), mapG fn xs = some ys → compD own G test elt (xs.map dd) w = some (ys.map E, w)
  | [], ys, h => by cases h; rfl
  | x :: xs, ys, h => by
    obtain ⟨o, k1, k2⟩ := obind h
    obtain ⟨e1, h1, b, e2, h2, h3⟩ := hb x o k1
    rw [List.map_cons, comp_c, h1, bindS, kCp1_q, h2, bindS]
    rcases h3 with ⟨rfl, rfl, h3⟩ | ⟨rfl, y, rfl, e3, h3, h4⟩
    · rw [kCp2_f, h3]
      exact compG_go hb xs ys k2
    · obtain ⟨zs, k3, rfl⟩ := omap k2
      rw [kCp2_t, h3, bindS, kCp3_q, h4, compG_go hb xs zs k3, mapS, kCp4_q]; rfl
theorem e_compG {own : List Nat} {G : GF} {test : CF} {it : IF} {elt : EF} {dd : α → D} {E : β → T} {fn : α → Option (Option β)} {xs : List α} {ys : List β} (hi : it env = some (xs.map dd, e)) (hw : wipeE e own = w) (h : compG fn xs = some ys)
    (hb : ∀ x o, fn x = some o → ∃ e1, G (.p (dd x)) w = some e1 ∧ ∃ b e2, test e1 = some (b, e2) ∧ ((b = false ∧ o = none ∧ wipeE e2 own = w) ∨ (b = true ∧ ∃ y, o = some y ∧ ∃ e3, elt e2 = some (E y, e3) ∧ wipeE e3 own = w))) :
    eComp own it G test elt env = some (oE E ys, w) := by
  unfold compG at h
  split at h
  · rename_i c
    rw [eComp_q, hi, bindS, kComp_q, if_pos (by rw [List.length_map]; exact c), hw, compG_go hb xs ys h]; rfl
  · cases h
theorem e_compGP {own : List Nat} {G : GF} {test : CF} {it : IF} {elt : EF} {dd : α → D} {E : β → D} {fn : α → Option (Option β)} {xs : List α} {ys : List β} (hi : it env = some (xs.map dd, e)) (hw : wipeE e own = w) (h : compG fn xs = some ys)
    (hb : ∀ x o, fn x = some o → ∃ e1, G (.p (dd x)) w = some e1 ∧ ∃ b e2, test e1 = some (b, e2) ∧ ((b = false ∧ o = none ∧ wipeE e2 own = w) ∨ (b = true ∧ ∃ y, o = some y ∧ ∃ e3, elt e2 = some (.p (E y), e3) ∧ wipeE e3 own = w))) :
    eComp own it G test elt env = some (oL E ys, w) := by
  rw [← oE_p]
  exact e_compG (E := pE E) hi hw h hb
-- opaque calls
def opq (o : Option T) : Option D := match o with
  | some (.p d) => some d
  | _ => none
def asB : D → Option Bool
  | .bl b => some b
  | _ => none
def asN : D → Option Int
  | .int b => some b
  | _ => none
theorem opq_p {o : Option T} {d : D} (h : opq o = some d) : o = some (.p d) := by
  unfold opq at h
  split at h
  · cases h; rfl
  · cases h
theorem opq_D {o : Option T} {d : D} (h : opq o = some d) : o = some (.p d) := opq_p h
def opB (o : Option T) : Option Bool := (opq o).bind asB
theorem opq_B {o : Option T} {b : Bool} (h : opB o = some b) : o = some (.p (.bl b)) := by
  obtain ⟨d, h1, h2⟩ := obind h
  unfold asB at h2
  split at h2
  · cases h2; exact opq_p h1
  · cases h2
def asIntD (d : D) : Option Int := asN d
theorem g_lenD {d : D} (h : (gLen (.p d)).bind asIntD = some a) : gLen (.p d) = some (.int a) := by
  obtain ⟨d, h1, h2⟩ := obind h
  unfold asIntD asN at h2
  split at h2
  · cases h2; exact h1
  · cases h2
theorem strs_map : ∀ ls : List Nm, strsD (ls.map eS) = some (ls.map sg)
  | [] => rfl
  | l :: ls => by show (strsD (ls.map eS)).map _ = _; rw [strs_map ls]; rfl
theorem e_join {ls : List Nm} (h1 : fo env = some (.p (eS p), e1)) (h2 : fe e1 = some (t, e2)) (hi : itemsT t = some (ls.map eS)) (h : joinN p ls = some q) : eJoin fo fe env = some (.p (eS q), e2) := by
  unfold joinN at h
  split at h
  · rename_i c
    cases h
    unfold eJoin
    rw [h1]
    show (fe e1).bind _ = _
    rw [h2]
    show (itemsT t).bind _ = _
    rw [hi]
    show (strsD (ls.map eS)).bind _ = _
    rw [strs_map]
    show (if ((ls.map sg).map (·.length)).sum + (ls.map sg).length * (sg p).length ≤ 16777216 then _ else _) = _
    have e1 : (ls.map sg).map (·.length) = ls.map (·.length) := by
      rw [List.map_map]
      apply List.map_congr_left
      intro l _
      exact sg_len l
    rw [e1, List.length_map, sg_len, if_pos c, join_g]
  · cases h
def splitN (a b : Nm) : Option (List Nm) := if (b.length == 0) = false ∧ a.length + 2 ≤ 16777216 then some ((Txt.split (sg a) (sg b)).map fun s => s.cps.toList) else none
theorem e_split {zs : List Nm} (h1 : fo env = some (.p (eS p), e1)) (h2 : fe e1 = some (.p (eS q), e2)) (h : splitN p q = some zs) : eSplit fo fe env = some (oL eS zs, e2) := by
  unfold splitN at h
  split at h
  · rename_i c
    cases h
    unfold eSplit
    rw [h1]
    show (fe e1).bind _ = _
    rw [h2]
    show (if ((sg q).length == 0) = false ∧ (sg p).length + 2 ≤ 16777216 then _ else _) = _
    rw [sg_len, sg_len, if_pos c]
    have hm : ((Txt.split (sg p) (sg q)).map fun s => s.cps.toList).map eS = (Txt.split (sg p) (sg q)).map D.str := by
      rw [List.map_map]
      apply List.map_congr_left
      intro s _
      show D.str (sg s.cps.toList) = D.str s
      rw [sg_eta]
    simp only [oL, hm]
  · cases h
end
section
variable {env e e1 e2 e' : Env} {f fi fk : EF} {t u : T} {i : Nat} {a y : Int} {α β : Type}
theorem w_appL2 {xs zs : List α} {dd : α → D} {x : α} (h0 : env[i]? = some (some (oL dd xs))) (h : f env = some (.p (dd x), e)) (h1 : e[i]? = some (some (oL dd xs))) (hp : push xs x = some zs) (he : e.set i (some (oL dd zs)) = e') : sApp i f env = some (.nx, e') := he ▸ w_appL h0 h h1 hp
theorem w_appE2 {xs zs : List α} {E : α → T} {x : α} (h0 : env[i]? = some (some (oE E xs))) (h : f env = some (E x, e)) (h1 : e[i]? = some (some (oE E xs))) (hp : push xs x = some zs) (he : e.set i (some (oE E zs)) = e') : sApp i f env = some (.nx, e') := he ▸ w_appE h0 h h1 hp
theorem w_appP2 {xs zs : List α} {dd : α → D} {x : α} (h0 : env[i]? = some (some (oL dd xs))) (h : f env = some (.p (dd x), e)) (h1 : e[i]? = some (some (oL dd xs))) (hp : push xs x = some zs) (he : e.set i (some (oL dd zs)) = e') : sAppP i (pNm i) f env = some (.nx, e') := he ▸ w_appP h0 h h1 hp
theorem w_putL2 {xs zs : List α} {dd : α → D} {x : α} (h : f env = some (.p (dd x), e)) (h0 : e[i]? = some (some (oL dd xs))) (hj : fi e = some (.p (.int a), e1)) (h1 : e1[i]? = some (some (oL dd xs))) (hp : putI xs a x = some zs) (he : e1.set i (some (oL dd zs)) = e') : sPut i fi f env = some (.nx, e') := he ▸ w_putL h h0 hj h1 hp
theorem w_addI2 {xs zs : List Int} (h0 : env[i]? = some (some (oL D.int xs))) (hj : fi env = some (.p (.int a), e)) (h1 : e[i]? = some (some (oL D.int xs))) (hf : f e = some (.p (.int y), e1)) (h2 : e1[i]? = some (some (oL D.int xs)))
    (hp : addI xs a y = some zs) (he : e1.set i (some (oL D.int zs)) = e') : sAugIx i (fun i j => i + j) fi f env = some (.nx, e') := he ▸ w_addI h0 hj h1 hf h2 hp
theorem w_subI2 {xs zs : List Int} (h0 : env[i]? = some (some (oL D.int xs))) (hj : fi env = some (.p (.int a), e)) (h1 : e[i]? = some (some (oL D.int xs))) (hf : f e = some (.p (.int y), e1)) (h2 : e1[i]? = some (some (oL D.int xs)))
    (hp : subI xs a y = some zs) (he : e1.set i (some (oL D.int zs)) = e') : sAugIx i (fun i j => i - j) fi f env = some (.nx, e') := he ▸ w_subI h0 hj h1 hf h2 hp
theorem w_rev2 {xs : List α} {dd : α → D} (h : env[i]? = some (some (oL dd xs))) (he : env.set i (some (oL dd xs.reverse)) = e') : sRevP i (pNm i) env = some (.nx, e') := he ▸ w_rev h
theorem w_ext2 {xs ys zs : List α} {dd : α → D} (h0 : env[i]? = some (some (oL dd xs))) (hf : f env = some (oL dd ys, e)) (h1 : e[i]? = some (some (oL dd xs))) (h : extL xs ys = some zs) (he : e.set i (some (oL dd zs)) = e') : sExtP i (pNm i) f env = some (.nx, e') := he ▸ w_ext h0 hf h1 h
theorem w_putD2 [DecidableEq β] {kk : β → Key} {dd : α → D} (hk : ∀ a b, kk a = kk b → a = b) {kv kv2 : List (β × α)} {k : β} {x : α} (h : f env = some (.p (dd x), e)) (h0 : e[i]? = some (some (oK kk dd kv))) (hj : fk e = some (u, e1)) (h3 : keyT u = some (kk k)) (h1 : e1[i]? = some (some (oK kk dd kv))) (hp : putK kv k x = some kv2) (he : e1.set i (some (oK kk dd kv2)) = e') : sPutD i fk f env = some (.nx, e') := he ▸ w_putD hk h h0 hj h3 h1 hp
end
end DL

set_option Elab.async false
set_option linter.all false
set_option maxRecDepth 100000
/-! What natives answer: weakest answers. -/
namespace DL
open PySem PySem.Spec PyProof.Rows L2
/-- there is an answer, and it is so -/
def Ok {α : Type} (o : Option α) (Q : α → Prop) : Prop := ∃ v, o = some v ∧ Q v
section
variable {α β σ ρ κ : Type} {o : Option α} {P Q : α → Prop}
theorem ok_some {v : α} (h : Q v) : Ok (some v) Q := ⟨v, rfl, h⟩
theorem ok_bind {k : α → Option β} {R : β → Prop} (h : Ok o Q) (g : ∀ v, Q v → Ok (k v) R) : Ok (o.bind k) R := by
  obtain ⟨v, rfl, q⟩ := h
  exact g v q
theorem ok_eq {k : α → Option β} {R : β → Prop} {v : α} (h : o = some v) (g : Ok (k v) R) : Ok (o.bind k) R := by subst h; exact g
theorem ok_imp (h : Ok o P) (g : ∀ v, P v → Q v) : Ok o Q := by
  obtain ⟨v, h1, h2⟩ := h
  exact ⟨v, h1, g v h2⟩
theorem ok_ite {b : Bool} {x y : Option α} (h1 : b = true → Ok x Q) (h2 : b = false → Ok y Q) : Ok (if b = true then x else y) Q := by
  cases b with
  | true => exact h1 rfl
  | false => exact h2 rfl
theorem ok_dite {p : Prop} [Decidable p] {x y : Option α} (h1 : p → Ok x Q) (h2 : ¬ p → Ok y Q) : Ok (if decide p = true then x else y) Q := by
  by_cases c : p
  · rw [if_pos (decide_eq_true c)]; exact h1 c
  · rw [if_neg (by simp [c])]; exact h2 c
theorem ok_fin {o : Option α} {v : α} (h : Ok o (· = v)) : o = some v := by
  obtain ⟨w, h1, rfl⟩ := h
  exact h1
theorem ok_of {o : Option α} {v : α} (h : o = some v) (q : Q v) : Ok o Q := ⟨v, h, q⟩
-- walks
theorem ok_fold {f : α → σ → Option σ} (I : List α → σ → Prop) : ∀ (xs done : List α) (s : σ), I done s → (∀ pre x post s, done ++ xs = pre ++ x :: post → I pre s → Ok (f x s) (I (pre ++ [x]))) → Ok (fold f xs s) (I (done ++ xs))
  | [], done, s, h0, _ => by rw [List.append_nil]; exact ok_some h0
  | x :: xs, done, s, h0, hs => by
    refine ok_bind (hs done x xs s rfl h0) fun v hv => ?_
    have := ok_fold I xs (done ++ [x]) v hv (fun pre y post s e => hs pre y post s (by rw [← e, List.append_assoc]; rfl))
    rw [List.append_assoc] at this
    exact this
theorem ok_fold0 {f : α → σ → Option σ} (I : List α → σ → Prop) {xs : List α} {s : σ} (h0 : I [] s) (hs : ∀ pre x post s, xs = pre ++ x :: post → I pre s → Ok (f x s) (I (pre ++ [x]))) : Ok (fold f xs s) (I xs) := by
  have := ok_fold I xs [] s h0 hs
  exact this
/-- a walk whose state keeps a law that does not look at what is done -/
theorem ok_foldI {f : α → σ → Option σ} (I : σ → Prop) {xs : List α} {s : σ} (h0 : I s) (hs : ∀ x ∈ xs, ∀ s, I s → Ok (f x s) I) : Ok (fold f xs s) I :=
  ok_fold0 (fun _ s => I s) h0 fun pre x post s e h => hs x (by rw [e]; simp) s h
/-- .. over numbered things -/
theorem enumN_len : ∀ (k : Nat) (xs : List α), (enumN k xs).length = xs.length
  | _, [] => rfl
  | k, x :: xs => by rw [enumN, List.length_cons, List.length_cons, enumN_len (k + 1) xs]
theorem enumN_mem : ∀ {k : Nat} {xs : List α} {p : Int × α}, p ∈ enumN k xs → (k : Int) ≤ p.1 ∧ p.1 < (k : Int) + xs.length ∧ p.2 ∈ xs
  | _, [], p, h => by cases h
  | k, x :: xs, p, h => by
    rw [enumN] at h
    rcases List.mem_cons.mp h with rfl | h
    · exact ⟨Int.le_refl _, by rw [List.length_cons]; omega, by simp⟩
    · obtain ⟨h1, h2, h3⟩ := enumN_mem h
      refine ⟨by omega, ?_, by simp [h3]⟩
      rw [List.length_cons]; omega
theorem enumN_snd : ∀ (k : Nat) (xs : List α), (enumN k xs).map (·.2) = xs
  | _, [] => rfl
  | k, x :: xs => by rw [enumN, List.map_cons, enumN_snd (k + 1) xs]
theorem enumN_app : ∀ (k : Nat) (xs ys : List α), enumN k (xs ++ ys) = enumN k xs ++ enumN (k + xs.length) ys
  | _, [], _ => rfl
  | k, x :: xs, ys => by rw [List.cons_append, enumN, enumN, enumN_app (k + 1) xs ys, List.length_cons, List.cons_append, show k + 1 + xs.length = k + (xs.length + 1) by omega]
theorem rngN_len (lo : Int) (n : Nat) : (rngN lo n).length = n := by simp [rngN]
theorem rngN_mem {lo : Int} {n : Nat} {i : Int} (h : i ∈ rngN lo n) : lo ≤ i ∧ i < lo + n := by
  unfold rngN at h
  obtain ⟨k, hk, rfl⟩ := List.mem_map.mp h
  have := List.mem_range.mp hk
  omega
theorem ok_push {xs : List α} {x : α} {R : List α → Prop} (h : xs.length < 16000000) (q : R (xs ++ [x])) : Ok (push xs x) R := ⟨_, if_pos h, q⟩
theorem push_eq {xs : List α} {x : α} (h : xs.length < 16000000) : push xs x = some (xs ++ [x]) := if_pos h
theorem catL_eq {xs ys : List α} (h : xs.length + ys.length ≤ 16777216) : catL xs ys = some (xs ++ ys) := if_pos h
theorem extL_eq {xs ys : List α} (h : xs.length + ys.length < 16000000) : extL xs ys = some (xs ++ ys) := if_pos h
theorem compT_eq {f : α → β} {xs : List α} (h : xs.length ≤ 1000000) : compT f xs = some (xs.map f) := if_pos h
theorem compTF_eq {p : α → Bool} {f : α → β} {xs : List α} (h : xs.length ≤ 1000000) : compTF p f xs = some ((xs.filter p).map f) := if_pos h
theorem mapO_eq {f : α → Option β} {g : α → β} : ∀ {xs : List α}, (∀ x ∈ xs, f x = some (g x)) → mapO f xs = some (xs.map g)
  | [], _ => rfl
  | x :: xs, h => by
    show (f x).bind _ = _
    rw [h x (by simp)]
    show (mapO f xs).map _ = _
    rw [mapO_eq fun y hy => h y (by simp [hy])]; rfl
theorem compO_eq {f : α → Option β} {g : α → β} {xs : List α} (hl : xs.length ≤ 1000000) (h : ∀ x ∈ xs, f x = some (g x)) : compO f xs = some (xs.map g) := by unfold compO; rw [if_pos hl, mapO_eq h]
theorem compOF_eq {p : α → Bool} {f : α → Option β} {g : α → β} {xs : List α} (hl : xs.length ≤ 1000000) (h : ∀ x ∈ xs, p x = true → f x = some (g x)) : compOF p f xs = some ((xs.filter p).map g) := by
  unfold compOF; rw [if_pos hl, mapO_eq fun x hx => h x (List.mem_filter.mp hx).1 (List.mem_filter.mp hx).2]
theorem mapG_eq {f : α → Option (Option β)} {p : α → Bool} {g : α → β} : ∀ {xs : List α}, (∀ x ∈ xs, f x = some (if p x = true then some (g x) else none)) → mapG f xs = some ((xs.filter p).map g)
  | [], _ => rfl
  | x :: xs, h => by
    show (f x).bind _ = _
    rw [h x (by simp)]
    have ih := mapG_eq fun y hy => h y (List.mem_cons_of_mem x hy)
    cases hp : p x with
    | true =>
      show (mapG f xs).map _ = _
      rw [ih, List.filter_cons_of_pos hp]; rfl
    | false =>
      show mapG f xs = _
      rw [ih, List.filter_cons_of_neg (by rw [hp]; simp)]
theorem compG_eq {f : α → Option (Option β)} {p : α → Bool} {g : α → β} {xs : List α} (hl : xs.length ≤ 1000000) (h : ∀ x ∈ xs, f x = some (if p x = true then some (g x) else none)) : compG f xs = some ((xs.filter p).map g) := by unfold compG; rw [if_pos hl, mapG_eq h]
theorem ok_mapO {f : α → Option β} {R : α → β → Prop} : ∀ {xs : List α}, (∀ x ∈ xs, Ok (f x) (R x)) → Ok (mapO f xs) fun ys => ys.length = xs.length ∧ ∀ y ∈ ys, ∃ x ∈ xs, R x y
  | [], _ => ok_some ⟨rfl, by simp⟩
  | x :: xs, h => by
    refine ok_bind (h x (by simp)) fun y hy => ?_
    obtain ⟨ys, h1, h2, h3⟩ := ok_mapO fun z hz => h z (List.mem_cons_of_mem x hz)
    rw [h1]
    refine ok_some ⟨by simp [h2], fun z hz => ?_⟩
    rcases List.mem_cons.mp hz with rfl | hz
    · exact ⟨x, by simp, hy⟩
    · obtain ⟨w, hw, r⟩ := h3 z hz
      exact ⟨w, by simp [hw], r⟩
theorem ok_compO {f : α → Option β} {R : α → β → Prop} {xs : List α} (hl : xs.length ≤ 1000000) (h : ∀ x ∈ xs, Ok (f x) (R x)) : Ok (compO f xs) fun ys => ys.length = xs.length ∧ ∀ y ∈ ys, ∃ x ∈ xs, R x y := by unfold compO; rw [if_pos hl]; exact ok_mapO h
theorem ok_atI {xs : List α} {i : Int} {R : α → Prop} (h0 : 0 ≤ i) (h1 : i < xs.length) (h : ∀ x ∈ xs, R x) : Ok (atI xs i) R := by
  obtain ⟨x, hx, e, _⟩ := atI_in h0 h1
  exact ⟨x, e, h x hx⟩
theorem ok_rng1 {b : Int} {R : List Int → Prop} (h0 : -4611686018427387904 ≤ b) (h1 : b < 4611686018427387904) (h : R (rngN 0 b.toNat)) : Ok (rng1 b) R := ⟨_, if_pos ⟨h1, h0⟩, h⟩
theorem rng1_eq {b : Int} (h0 : -4611686018427387904 ≤ b) (h1 : b < 4611686018427387904) : rng1 b = some (rngN 0 b.toNat) := if_pos ⟨h1, h0⟩
theorem rng2_eq {a b : Int} (h0 : -4611686018427387904 ≤ a) (h1 : a < 4611686018427387904) (h2 : -4611686018427387904 ≤ b) (h3 : b < 4611686018427387904) : rng2 a b = some (rngN a (b - a).toNat) := if_pos ⟨⟨h1, h0⟩, h3, h2⟩
theorem mulN_l {a b : Int} (h : -18446744073709551616 < a ∧ a < 18446744073709551616) : mulN a b = some (a * b) := if_pos (by unfold mulOk; exact decide_eq_true (.inl h))
theorem mulN_r {a b : Int} (h : -18446744073709551616 < b ∧ b < 18446744073709551616) : mulN a b = some (a * b) := if_pos (by unfold mulOk; exact decide_eq_true (.inr (.inl h)))
theorem modN_eq {a b : Int} (h : 0 < b) : modN a b = some (a % b) := if_pos (by unfold modOk; exact decide_eq_true h)
theorem divN_eq {a b : Int} (h : 0 < b) (h1 : b < 1606938044258990275541962092341162602522202993782792835301376) : divN a b = some (a / b) := if_pos (by unfold divOk; exact decide_eq_true ⟨h, h1⟩)
theorem ok_mod {a b : Int} (h : 0 < b) : Ok (modN a b) fun x => 0 ≤ x ∧ x < b := ⟨_, modN_eq h, Int.emod_nonneg _ (by omega), Int.emod_lt_of_pos _ h⟩
theorem catS_eq {a b : Nm} (h : a.length + b.length ≤ 16777216) : catS a b = some (a ++ b) := if_pos h
theorem bits_small {x : Int} (h0 : 0 ≤ x) (h1 : x < 1606938044258990275541962092341162602522202993782792835301376) : Builtin.Int.intBits x ≤ 1048576 := by
  unfold Builtin.Int.intBits
  by_cases z : x = 0
  · subst z; decide
  · have hb : (x == 0) = false := by simpa using z
    rw [hb]
    have hn : x.natAbs ≠ 0 := by omega
    have : x.natAbs.log2 < 200 := (Nat.log2_lt hn).mpr (by
      have e : (2 : Nat) ^ 200 = 1606938044258990275541962092341162602522202993782792835301376 := by decide
      rw [e]; omega)
    show x.natAbs.log2 + 1 ≤ 1048576
    omega
theorem mulN_b {a b : Int} (h0 : 0 ≤ a) (h1 : a < 1606938044258990275541962092341162602522202993782792835301376) (h2 : 0 ≤ b) (h3 : b < 1606938044258990275541962092341162602522202993782792835301376) : mulN a b = some (a * b) := if_pos (by
  unfold mulOk
  have := bits_small h0 h1
  have := bits_small h2 h3
  exact decide_eq_true (.inr (.inr (by omega))))
-- dicts made of pairs whose names differ
variable [DecidableEq κ]
theorem lk_nil (k : κ) : lkN ([] : List (κ × α)) k = none := rfl
theorem lk_cons (j k : κ) (x : α) (r : List (κ × α)) : lkN ((j, x) :: r) k = if j = k then some x else lkN r k := by
  unfold lkN
  by_cases c : j = k
  · subst c; simp
  · simp [c]
theorem lk_app (k : κ) : ∀ (r q : List (κ × α)), lkN (r ++ q) k = (lkN r k).or (lkN q k)
  | [], q => by rw [lk_nil]; rfl
  | (j, x) :: r, q => by
    rw [List.cons_append, lk_cons, lk_cons, lk_app k r q]
    split <;> rfl
theorem lk_any (k : κ) : ∀ r : List (κ × α), (r.any fun p => decide (p.1 = k)) = (lkN r k).isSome
  | [] => rfl
  | (j, x) :: r => by
    rw [List.any_cons, lk_cons, lk_any k r]
    by_cases c : j = k <;> simp [c]
theorem lk_map (k j : κ) (x : α) : ∀ r : List (κ × α), lkN (r.map fun p => if p.1 = j then (p.1, x) else p) k = if k = j then (lkN r k).map (fun _ => x) else lkN r k
  | [] => by rw [List.map_nil, lk_nil]; split <;> rfl
  | (i, y) :: r => by
    rw [List.map_cons]
    by_cases c : i = j
    · subst c
      rw [if_pos rfl, lk_cons, lk_cons, lk_map k i x r]
      by_cases d : i = k
      · subst d; simp
      · have d2 : ¬ k = i := fun e => d e.symm
        simp [d, d2]
    · rw [if_neg c, lk_cons, lk_cons, lk_map k j x r]
      by_cases d : i = k
      · subst d; rw [if_pos rfl, if_pos rfl, if_neg c]
      · rw [if_neg d, if_neg d]
theorem lk_put (kv : List (κ × α)) (j k : κ) (x : α) : lkN (putN kv j x) k = if k = j then some x else lkN kv k := by
  unfold putN
  rw [lk_any]
  cases h : lkN kv j with
  | some y =>
    rw [Option.isSome_some, if_pos rfl, lk_map]
    by_cases c : k = j
    · subst c; rw [if_pos rfl, if_pos rfl, h]; rfl
    · rw [if_neg c, if_neg c]
  | none =>
    rw [Option.isSome_none, if_neg (by simp), lk_app, lk_cons, lk_nil]
    by_cases c : k = j
    · subst c; rw [h, if_pos rfl]; simp
    · rw [if_neg c, if_neg (fun e => c e.symm)]; cases lkN kv k <;> rfl
theorem mkK_app (ps : List (κ × α)) (p : κ × α) : mkK (ps ++ [p]) = putN (mkK ps) p.1 p.2 := by unfold mkK; rw [List.foldl_append]; rfl
/-- what a dict of pairs tells: the last pair of the name -/
theorem mkK_lk (k : κ) (ps : List (κ × α)) : lkN (mkK ps) k = lkN ps.reverse k := by
  have go : ∀ qs : List (κ × α), lkN (mkK qs.reverse) k = lkN qs k := by
    intro qs
    induction qs with
    | nil => rfl
    | cons p qs ih =>
      rw [List.reverse_cons, mkK_app, lk_put, ih]
      obtain ⟨j, x⟩ := p
      rw [lk_cons]
      by_cases c : k = j
      · rw [if_pos c, if_pos c.symm]
      · rw [if_neg c, if_neg fun e => c e.symm]
  have := go ps.reverse
  rw [List.reverse_reverse] at this
  exact this
theorem lk_mem {k : κ} {x : α} : ∀ {r : List (κ × α)}, lkN r k = some x → (k, x) ∈ r
  | [], h => by cases h
  | (j, y) :: r, h => by
    rw [lk_cons] at h
    split at h
    · rename_i c; cases h; subst c; simp
    · exact List.mem_cons_of_mem _ (lk_mem h)
theorem lk_of {k : κ} {x : α} : ∀ {r : List (κ × α)}, (r.map (·.1)).Nodup → (k, x) ∈ r → lkN r k = some x
  | [], _, h => by cases h
  | (j, y) :: r, hn, h => by
    rw [List.map_cons, List.nodup_cons] at hn
    rw [lk_cons]
    rcases List.mem_cons.mp h with e | h
    · cases e; rw [if_pos rfl]
    · rw [if_neg, lk_of hn.2 h]
      rintro rfl
      exact hn.1 (List.mem_map.mpr ⟨_, h, rfl⟩)
theorem lkN_none {k : κ} : ∀ {r : List (κ × α)}, k ∉ r.map (·.1) → lkN r k = none
  | [], _ => rfl
  | (j, y) :: r, h => by
    rw [List.map_cons, List.mem_cons] at h
    rw [lk_cons, if_neg (fun e => h (.inl e.symm)), lkN_none fun e => h (.inr e)]
theorem lk_isSome {k : κ} {r : List (κ × α)} (h : k ∈ r.map (·.1)) : ∃ x, lkN r k = some x := by
  cases e : lkN r k with
  | some x => exact ⟨x, rfl⟩
  | none =>
    exfalso
    obtain ⟨⟨j, y⟩, hp, rfl⟩ := List.mem_map.mp h
    have := lk_any j r
    rw [e] at this
    have h2 : (r.any fun p => decide (p.1 = j)) = true := List.any_eq_true.mpr ⟨_, hp, by simp⟩
    rw [this] at h2; cases h2
theorem lk_rev {k : κ} {r : List (κ × α)} (h : (r.map (·.1)).Nodup) : lkN r.reverse k = lkN r k := by
  cases e : lkN r k with
  | some x => exact lk_of (by rw [List.map_reverse]; exact List.pairwise_reverse.mpr (List.Pairwise.imp (fun h => Ne.symm h) h)) (List.mem_reverse.mpr (lk_mem e))
  | none =>
    refine lkN_none fun hm => ?_
    rw [List.map_reverse, List.mem_reverse] at hm
    obtain ⟨x, hx⟩ := lk_isSome hm
    rw [e] at hx; cases hx
theorem mk_lk1 {k : κ} {r : List (κ × α)} (h : (r.map (·.1)).Nodup) : lkN (mkK r) k = lkN r k := by rw [mkK_lk, lk_rev h]
end
end DL

set_option Elab.async false
set_option linter.all false
set_option maxRecDepth 100000
set_option maxHeartbeats 4000000
namespace LQ
open PySem PySem.Spec PyProof.Rows L2 DL 
def F_law_whole : SF :=
  (sRet (eAnd (eIsi "int" (eB 0)) (eNot (eIsi "bool" (eB 0)))))
def phi_law_whole : List D → Option T := runF 1 1 F_law_whole
def F_law_plain (φ : List D → Option T) : SF :=
  (sSeq (sIf (cT (eIsi2 "list" "tuple" (eB 0))) (sRet (eB1 gAll (eComp [1] (iSq (eV 0)) (gNm 1) cYes (eCall φ (aC (eV 1) aN))))) sNx)
  (sRet (eOr (eIsi "str" (eB 0)) (eCall phi_law_whole (aC (eV 0) aN)))))
def phi_law_plain : Nat → List D → Option T
  | 0 => fun _ => none
  | n + 1 => runF 2 1 (F_law_plain (phi_law_plain n))
end LQ

set_option Elab.async false
set_option linter.all false
set_option maxRecDepth 100000
set_option maxHeartbeats 1000000
/-! law_plain says True of lists and tuples of texts and whole numbers. -/
namespace LQ
open PySem PySem.Spec PyProof.Rows L2 DL
mutual
def pOk : Nat → D → Bool
  | _, .int _ => true
  | _, .str _ => true
  | n + 1, .lst ds => decide (ds.length ≤ 1000000) && pOks n ds
  | n + 1, .tup ds => decide (ds.length ≤ 1000000) && pOks n ds
  | _, _ => false
def pOks : Nat → List D → Bool
  | _, [] => true
  | n, d :: ds => pOk n d && pOks n ds
end
theorem pOks_iff {n : Nat} : ∀ {ds : List D}, pOks n ds = true ↔ ∀ d ∈ ds, pOk n d = true
  | [] => by unfold pOks; simp
  | d :: ds => by unfold pOks; rw [Bool.and_eq_true, pOks_iff (ds := ds)]; simp
theorem isi2_eq {t1 t2 : String} {a b : Bool} {f : EF} {env e : DL.Env} {t : T} {d : D} (h : f env = some (t, e)) (hd : t.toD = d) (hk : tyOk d = true) (h1 : kitB (tyD d) t1 = some a) (h2 : kitB (tyD d) t2 = some b) : eIsi2 t1 t2 f env = some (.p (.bl (a || b)), e) := by
  unfold eIsi2
  rw [h]
  show (if tyOk t.toD = true then _ else _) = _
  rw [hd, if_pos hk, h1]
  show (kitB (tyD d) t2).map _ = _
  rw [h2]; rfl
theorem k1 : kitB "int" "list" = some false := by decide +kernel
theorem k2 : kitB "int" "tuple" = some false := by decide +kernel
theorem k3 : kitB "str" "list" = some false := by decide +kernel
theorem k4 : kitB "str" "tuple" = some false := by decide +kernel
theorem whole_int (i : Int) : phi_law_whole [.int i] = some (.p (.bl true)) := by
  refine runF_wp rfl ?_
  show Wp (F_law_whole [some (.p (.int i))]) _
  unfold F_law_whole
  refine w_ret (t := .p (.bl (true && !false))) (e_and (e_isi (e_b rfl) (u_p _) rfl (show kitB "int" "int" = some true by decide +kernel)) (e_not (e_isi (e_b rfl) (u_p _) rfl (show kitB "int" "bool" = some false by decide +kernel)))) (Or.inl rfl)
theorem plain_ok : ∀ (n : Nat) (d : D), pOk n d = true → phi_law_plain (n + 1) [d] = some (.p (.bl true))
  | n, d, h => by
    show runF 2 1 (F_law_plain (phi_law_plain n)) [d] = _
    have seq : ∀ (ds : List D) (f : IF), f [some (.p d), none] = some (ds, [some (.p d), none]) → (∀ x ∈ ds, phi_law_plain n [x] = some (.p (.bl true))) → ds.length ≤ 1000000 →
        eB1 gAll (eComp [1] f (gNm 1) cYes (eCall (phi_law_plain n) (aC (eV 1) aN))) [some (.p d), none] = some (.p (.bl true), [some (.p d), none]) := fun ds f hf hp hl => by
      have hc : compD [1] (gNm 1) cYes (eCall (phi_law_plain n) (aC (eV 1) aN)) ds [some (.p d), none] = some ((ds.map fun _ => T.p (.bl true)), [some (.p d), none]) := comp_map (fun _ => T.p (.bl true)) ds fun x hx => ⟨[some (.p d), some (.p x)], _, _, rfl, rfl, e_call (a_c (e_v rfl) a_n) rfl (hp x hx), rfl⟩
      rw [eB1_q, eComp_q, hf, bindS, kComp_q, if_pos hl, show wipeE [some (T.p d), none] [1] = [some (T.p d), none] from rfl, hc]
      show (gAll (.lst (ds.map fun _ => T.p (.bl true)))).map _ = _
      have : gAll (.lst (ds.map fun _ => T.p (.bl true))) = some (.bl true) := by
        have h1 := g_allO (ds.map fun _ => true)
        have h2 : oL D.bl (ds.map fun _ => true) = .lst (ds.map fun _ => T.p (.bl true)) := by simp [oL]
        rw [h2] at h1
        rw [h1]
        congr 2
        rw [List.all_map]
        simp
      rw [this]; rfl
    refine runF_wp rfl ?_
    show Wp (F_law_plain (phi_law_plain n) [some (.p d), none]) _
    unfold F_law_plain
    cases d with
    | int i =>
      refine w_if (r := ()) (n1 := none) (n2 := some ()) (c_t (isi2_eq (e_b rfl) (u_p _) rfl k1 k2)) rfl (fun h => nomatch h) (fun _ _ => ?_)
      refine w_snx ?_
      refine w_ret (t := .p (.bl true)) (e := [some (.p (.int i)), none]) ?_ (Or.inl rfl)
      exact e_or (r := false) (s := true) (e_isi (e_b rfl) (u_p _) rfl (show kitB "int" "str" = some false by decide +kernel)) (e_call (a_c (e_v rfl) a_n) rfl (whole_int i))
    | str s =>
      refine w_if (r := ()) (n1 := none) (n2 := some ()) (c_t (isi2_eq (e_b rfl) (u_p _) rfl k3 k4)) rfl (fun h => nomatch h) (fun _ _ => ?_)
      refine w_snx ?_
      refine w_ret (t := .p (.bl true)) (e := [some (.p (.str s)), none]) ?_ (Or.inl rfl)
      have h1 : eIsi "str" (eB 0) [some (.p (.str s)), none] = some (.p (.bl true), [some (.p (.str s)), none]) := e_isi (e_b rfl) (u_p _) rfl kit_ss
      rw [eOr_q, c_t h1]; rfl
    | lst ds =>
      cases n with
      | zero => unfold pOk at h; cases h
      | succ n =>
        unfold pOk at h
        rw [Bool.and_eq_true, pOks_iff] at h
        refine w_if (r := ()) (n1 := some ()) (n2 := none) (c_t (isi2_eq (e_b rfl) (u_p _) rfl (show kitB "list" "list" = some true by decide +kernel) (show kitB "list" "tuple" = some false by decide +kernel))) rfl (fun _ _ => ?_) (fun h => nomatch h)
        exact w_sret (seq ds _ (i_sqL (e_v rfl)) (fun x hx => plain_ok n x (h.2 x hx)) (of_decide_eq_true h.1)) (Or.inl rfl)
    | tup ds =>
      cases n with
      | zero => unfold pOk at h; cases h
      | succ n =>
        unfold pOk at h
        rw [Bool.and_eq_true, pOks_iff] at h
        refine w_if (r := ()) (n1 := some ()) (n2 := none) (c_t (isi2_eq (e_b rfl) (u_p _) rfl (show kitB "tuple" "list" = some false by decide +kernel) (show kitB "tuple" "tuple" = some true by decide +kernel))) rfl (fun _ _ => ?_) (fun h => nomatch h)
        exact w_sret (seq ds _ (i_sqT (e_v rfl)) (fun x hx => plain_ok n x (h.2 x hx)) (of_decide_eq_true h.1)) (Or.inl rfl)
    | _ => unfold pOk at h; cases h
theorem pOk_int {n : Nat} {i : Int} : pOk n (.int i) = true := by unfold pOk; rfl
theorem pOk_str {n : Nat} {s : Str} : pOk n (.str s) = true := by unfold pOk; rfl
theorem pOk_lst {n : Nat} {α : Type} {e : α → D} {xs : List α} (hl : xs.length ≤ 1000000) (h : ∀ x ∈ xs, pOk n (e x) = true) : pOk (n + 1) (eLs e xs) = true := by
  show pOk (n + 1) (.lst (xs.map e)) = true
  unfold pOk
  rw [Bool.and_eq_true, pOks_iff]
  exact ⟨decide_eq_true (by rw [List.length_map]; exact hl), fun d hd => by obtain ⟨x, hx, rfl⟩ := List.mem_map.mp hd; exact h x hx⟩
theorem pOk_tup {n : Nat} {ds : List D} (hl : ds.length ≤ 1000000) (h : ∀ x ∈ ds, pOk n x = true) : pOk (n + 1) (.tup ds) = true := by
  unfold pOk
  rw [Bool.and_eq_true, pOks_iff]
  exact ⟨decide_eq_true hl, h⟩
end LQ

set_option Elab.async false
set_option linter.all false
set_option maxRecDepth 100000
/-! Data that == takes for the same as itself; data that law_plain takes. -/
namespace DL
open PySem PySem.Spec PyProof.Rows L2
mutual
theorem dOk_up : ∀ {n : Nat} {d : D}, dOk n d = true → ∀ m, n ≤ m → dOk m d = true
  | _, .non, _, m, _ => by cases m <;> rfl
  | _, .bl _, _, m, _ => by cases m <;> rfl
  | _, .int _, _, m, _ => by cases m <;> rfl
  | _, .str s, h, m, _ => by unfold dOk at h ⊢; exact h
  | 0, .lst _, h, _, _ => by unfold dOk at h; cases h
  | n + 1, .lst ds, h, m, hm => by
    obtain ⟨k, rfl⟩ : ∃ k, m = k + 1 := ⟨m - 1, by omega⟩
    unfold dOk at h ⊢
    exact dOks_up h k (by omega)
  | 0, .tup _, h, _, _ => by unfold dOk at h; cases h
  | n + 1, .tup ds, h, m, hm => by
    obtain ⟨k, rfl⟩ : ∃ k, m = k + 1 := ⟨m - 1, by omega⟩
    unfold dOk at h ⊢
    exact dOks_up h k (by omega)
  | _, .dic _, h, _, _ => by unfold dOk at h; cases h
  | _, .dit _, h, _, _ => by unfold dOk at h; cases h
  | _, .obj _ _, h, _, _ => by unfold dOk at h; cases h
  | _, .al _, h, _, _ => by unfold dOk at h; cases h
theorem dOks_up : ∀ {n : Nat} {ds : List D}, dOks n ds = true → ∀ m, n ≤ m → dOks m ds = true
  | _, [], _, m, _ => by cases m <;> rfl
  | n, d :: ds, h, m, hm => by
    unfold dOks at h ⊢
    rw [Bool.and_eq_true] at h ⊢
    exact ⟨dOk_up h.1 m hm, dOks_up h.2 m hm⟩
end
def Sok (w : Nm) : Prop := ∀ c ∈ w, c < 1114112
theorem dS {n : Nat} {w : Nm} (h : Sok w) : dOk n (eS w) = true := dOk_sg h
theorem dL {n : Nat} {α : Type} {e : α → D} {xs : List α} (h : ∀ x ∈ xs, dOk n (e x) = true) : dOk (n + 1) (eLs e xs) = true := dOk_lst fun d hd => by obtain ⟨x, hx, rfl⟩ := List.mem_map.mp hd; exact h x hx
theorem dQ {n : Nat} {α : Type} {e : α → D} {xs : List α} (h : ∀ x ∈ xs, dOk n (e x) = true) : dOk (n + 1) (eSq e xs) = true := dOk_tup fun d hd => by obtain ⟨x, hx, rfl⟩ := List.mem_map.mp hd; exact h x hx
theorem dT2 {n : Nat} {a b : D} (h1 : dOk n a = true) (h2 : dOk n b = true) : dOk (n + 1) (.tup [a, b]) = true := dOk_tup fun d hd => by
  simp only [List.mem_cons, List.not_mem_nil, or_false] at hd
  rcases hd with rfl | rfl <;> assumption
theorem dT3 {n : Nat} {a b c : D} (h1 : dOk n a = true) (h2 : dOk n b = true) (h3 : dOk n c = true) : dOk (n + 1) (.tup [a, b, c]) = true := dOk_tup fun d hd => by
  simp only [List.mem_cons, List.not_mem_nil, or_false] at hd
  rcases hd with rfl | rfl | rfl <;> assumption
theorem dT5 {n : Nat} {a b c d e : D} (h1 : dOk n a = true) (h2 : dOk n b = true) (h3 : dOk n c = true) (h4 : dOk n d = true) (h5 : dOk n e = true) : dOk (n + 1) (.tup [a, b, c, d, e]) = true := dOk_tup fun d hd => by
  simp only [List.mem_cons, List.not_mem_nil, or_false] at hd
  rcases hd with rfl | rfl | rfl | rfl | rfl <;> assumption
theorem dT7 {n : Nat} {a b c d e f g : D} (h1 : dOk n a = true) (h2 : dOk n b = true) (h3 : dOk n c = true) (h4 : dOk n d = true) (h5 : dOk n e = true) (h6 : dOk n f = true) (h7 : dOk n g = true) : dOk (n + 1) (.tup [a, b, c, d, e, f, g]) = true := dOk_tup fun d hd => by
  simp only [List.mem_cons, List.not_mem_nil, or_false] at hd
  rcases hd with rfl | rfl | rfl | rfl | rfl | rfl | rfl <;> assumption
theorem sok_cod (s : String) : Sok (cod s) := cod_ok s

theorem dI {n : Nat} {i : Int} : dOk n (.int i) = true := dOk_int
theorem d20 {n : Nat} {d : D} (h : dOk n d = true) (hn : n ≤ 20) : dOk 20 d = true := dOk_up h 20 hn
open LQ (pOk)
mutual
theorem pOk_up : ∀ {n : Nat} {d : D}, pOk n d = true → ∀ m, n ≤ m → pOk m d = true
  | _, .int _, _, m, _ => by unfold pOk; rfl
  | _, .str s, h, m, _ => by unfold pOk; rfl
  | 0, .lst _, h, _, _ => by unfold pOk at h; cases h
  | n + 1, .lst ds, h, m, hm => by
    obtain ⟨k, rfl⟩ : ∃ k, m = k + 1 := ⟨m - 1, by omega⟩
    unfold pOk at h ⊢
    rw [Bool.and_eq_true] at h ⊢
    exact ⟨h.1, pOks_up h.2 k (by omega)⟩
  | 0, .tup _, h, _, _ => by unfold pOk at h; cases h
  | n + 1, .tup ds, h, m, hm => by
    obtain ⟨k, rfl⟩ : ∃ k, m = k + 1 := ⟨m - 1, by omega⟩
    unfold pOk at h ⊢
    rw [Bool.and_eq_true] at h ⊢
    exact ⟨h.1, pOks_up h.2 k (by omega)⟩
  | _, .non, h, _, _ => by unfold pOk at h; cases h
  | _, .bl _, h, _, _ => by unfold pOk at h; cases h
  | _, .dic _, h, _, _ => by unfold pOk at h; cases h
  | _, .dit _, h, _, _ => by unfold pOk at h; cases h
  | _, .obj _ _, h, _, _ => by unfold pOk at h; cases h
  | _, .al _, h, _, _ => by unfold pOk at h; cases h
theorem pOks_up : ∀ {n : Nat} {ds : List D}, LQ.pOks n ds = true → ∀ m, n ≤ m → LQ.pOks m ds = true
  | _, [], _, m, _ => by unfold LQ.pOks; rfl
  | n, d :: ds, h, m, hm => by
    unfold LQ.pOks at h ⊢
    rw [Bool.and_eq_true] at h ⊢
    exact ⟨pOk_up h.1 m hm, pOks_up h.2 m hm⟩
end
theorem pI {n : Nat} {i : Int} : pOk n (.int i) = true := LQ.pOk_int
theorem pS {n : Nat} {w : Nm} : pOk n (eS w) = true := LQ.pOk_str
theorem pL {n : Nat} {α : Type} {e : α → D} {xs : List α} (hl : xs.length ≤ 1000000) (h : ∀ x ∈ xs, pOk n (e x) = true) : pOk (n + 1) (eLs e xs) = true := LQ.pOk_lst hl h
theorem pT {n : Nat} {ds : List D} (hl : ds.length ≤ 1000000) (h : ∀ x ∈ ds, pOk n x = true) : pOk (n + 1) (.tup ds) = true := LQ.pOk_tup hl h
theorem pT2 {n : Nat} {a b : D} (h1 : pOk n a = true) (h2 : pOk n b = true) : pOk (n + 1) (.tup [a, b]) = true := pT (by simp) fun d hd => by
  simp only [List.mem_cons, List.not_mem_nil, or_false] at hd
  rcases hd with rfl | rfl <;> assumption
theorem pT3 {n : Nat} {a b c : D} (h1 : pOk n a = true) (h2 : pOk n b = true) (h3 : pOk n c = true) : pOk (n + 1) (.tup [a, b, c]) = true := pT (by simp) fun d hd => by
  simp only [List.mem_cons, List.not_mem_nil, or_false] at hd
  rcases hd with rfl | rfl | rfl <;> assumption
theorem pT5 {n : Nat} {a b c d e : D} (h1 : pOk n a = true) (h2 : pOk n b = true) (h3 : pOk n c = true) (h4 : pOk n d = true) (h5 : pOk n e = true) : pOk (n + 1) (.tup [a, b, c, d, e]) = true := pT (by simp) fun d hd => by
  simp only [List.mem_cons, List.not_mem_nil, or_false] at hd
  rcases hd with rfl | rfl | rfl | rfl | rfl <;> assumption
end DL

set_option Elab.async false
set_option linter.all false
set_option maxRecDepth 100000
set_option maxHeartbeats 2000000
namespace K30
open PySem PySem.Spec PyProof.Rows L2 DL
abbrev TSS : Type := Nm × Nm
abbrev eTSS : TSS → D := eT2 eS eS
abbrev R1 : Type := Nm × (List Nm)
abbrev eR1 : R1 → D := eT2 eS (eSq eS)
abbrev TSSI : Type := Nm × Nm × Int
abbrev eTSSI : TSSI → D := eT3 eS eS D.int
abbrev TSI : Type := Nm × Int
abbrev eTSI : TSI → D := eT2 eS D.int
abbrev R2 : Type := Nm × (List TSI) × (List D)
abbrev eR2 : R2 → D := eT3 eS (eLs eTSI) (eLs eD)
abbrev TIS : Type := Int × Nm
abbrev eTIS : TIS → D := eT2 D.int eS
abbrev TSII : Type := Nm × Int × Int
abbrev eTSII : TSII → D := eT3 eS D.int D.int
abbrev TSIS : Type := Nm × Int × Nm
abbrev eTSIS : TSIS → D := eT3 eS D.int eS
abbrev R3 : Type := Nm × (List TSII) × (List TSI) × (List Nm) × (List R2) × (List TSIS) × (List TSS)
abbrev eR3 : R3 → D := eT7 eS (eLs eTSII) (eLs eTSI) (eLs eS) (eLs eR2) (eLs eTSIS) (eLs eTSS)
abbrev R4 : Type := (List TSI) × (List TSI) × (List TSI) × (List TSI) × Int
abbrev eR4 : R4 → D := eT5 (eLs eTSI) (eLs eTSI) (eLs eTSI) (eLs eTSI) D.int
abbrev R5 : Type := Int × TSII
abbrev eR5 : R5 → D := eT2 D.int eTSII
abbrev R6 : Type := (List R4) × (List D) × (List Int)
abbrev eR6 : R6 → D := eT3 (eLs eR4) (eLs eD) (eLs D.int)
def n_law_draw (p_law_script : List Int) (p_law_k : Int) (p_law_many : Int) : Option Int :=
  ((if (decide ((0 : Int) < (p_law_script.length : Int))) = true then
  ((modN p_law_k (p_law_script.length : Int)).bind fun x1 =>
  (atI p_law_script x1).bind fun x2 =>
  some x2)
  else (some (0 : Int))) : Option Int).bind fun s3 =>
  (mulN ((1103 : Int) * p_law_k) p_law_k).bind fun x4 =>
  (mulN (((s3 % (2147483647 : Int)) + ((7 : Int) * p_law_k)) + (3 : Int)) ((48271 : Int) + x4)).bind fun x5 =>
  (modN ((x5 % (2147483629 : Int)) / (64 : Int)) p_law_many).bind fun x6 =>
  some x6
theorem l_law_draw {p_law_script : List Int} {p_law_k : Int} {p_law_many : Int} {r : Int} (h : n_law_draw p_law_script p_law_k p_law_many = some r) : phi_law_draw [(eLs D.int) p_law_script, D.int p_law_k, D.int p_law_many] = some (.p (D.int r)) := by
  unfold n_law_draw at h
  refine runF_wp rfl ?_
  show Wp (F_law_draw [some (.p (eLs D.int p_law_script)), some (.p (D.int p_law_k)), some (.p (D.int p_law_many)), none, none]) _
  unfold F_law_draw
  refine w_seq (e1 := [some (.p (eLs D.int p_law_script)), some (.p (D.int p_law_k)), some (.p (D.int p_law_many)), some (.p (D.int (0 : Int))), none]) (w_set2 e_c rfl rfl) ?_
  refine bnd h fun s3 hs3 h => ?_
  refine w_join (P := (fun e => e = [some (.p (eLs D.int p_law_script)), some (.p (D.int p_law_k)), some (.p (D.int p_law_many)), some (.p (D.int s3)), none])) ?_ (fun e he => ?_)
  · have h := hs3
    refine w_one ?_
    refine w_if (c_t (e_cmp (e_b1 (e_b rfl) (g_lenL _ _)) e_c (u_p _) (u_p _) rfl)) h (fun hb h => ?_) (fun hb h => ?_)
    · refine w_un ?_
      refine w_one ?_
      refine bnd h fun x1 hx1 h => ?_
      refine bnd h fun x2 hx2 h => ?_
      refine w_seq (e1 := [some (.p (eLs D.int p_law_script)), some (.p (D.int p_law_k)), some (.p (D.int p_law_many)), some (.p (D.int x2)), none]) (w_set2 (e_w (e_ix (e_b rfl) (e_op (e_v rfl) (e_b1 (e_b rfl) (g_lenL _ _)) (g_mod hx1)) (x_l hx2))) rfl rfl) ?_
      have h := Option.some.inj h
      subst h
      exact w_nx ⟨rfl, (by repeat (first | rfl | refine ⟨_, ?_⟩))⟩
    · refine w_un ?_
      have h := Option.some.inj h
      subst h
      exact w_nx ⟨rfl, (by repeat (first | rfl | refine ⟨_, ?_⟩))⟩
  · subst he
    refine bnd h fun x4 hx4 h => ?_
    refine bnd h fun x5 hx5 h => ?_
    refine w_seq (e1 := [some (.p (eLs D.int p_law_script)), some (.p (D.int p_law_k)), some (.p (D.int p_law_many)), some (.p (D.int s3)), some (.p (D.int (x5 % (2147483629 : Int))))]) (w_set2 (e_op (e_op (e_op (e_op (e_op (e_v rfl) e_c (g_modR rfl)) (e_op e_c (e_v rfl) (g_mulL rfl)) rfl) e_c rfl) (e_op e_c (e_op (e_op e_c (e_v rfl) (g_mulL rfl)) (e_v rfl) (g_mul hx4)) rfl) (g_mul hx5)) e_c (g_modR rfl)) rfl rfl) ?_
    refine w_one ?_
    refine bnd h fun x6 hx6 h => ?_
    have h := Option.some.inj h
    subst h
    exact w_sret (e_op (e_op (e_v rfl) e_c (g_divR rfl)) (e_v rfl) (g_mod hx6)) (Or.inl rfl)
def n_law_names (p_law_script : List Int) : Option (List Nm) :=
  (n_law_draw p_law_script (901 : Int) (2 : Int)).bind fun x1 =>
  (repN (cod "zq") x1).bind fun x2 =>
  (n_law_draw p_law_script (902 : Int) (4 : Int)).bind fun x3 =>
  (cutN (cod "vzb") none (some x3)).bind fun x4 =>
  (n_law_draw p_law_script (903 : Int) (16 : Int)).bind fun x5 =>
  (rng1  (16 : Int)).bind fun x6 =>
  (compO (fun (x7 : Int) => (ixS (cod "bcdfgjkmnpqvwxyz") ((x5 + x7) % (16 : Int))).bind fun x8 =>
  (catS x2 x8).bind fun x9 =>
  (catS x9 x4).bind fun x10 =>
  some x10) x6).bind fun c11 =>
  some c11
theorem l_law_names {p_law_script : List Int} {r : List Nm} (h : n_law_names p_law_script = some r) : phi_law_names [(eLs D.int) p_law_script] = some (oL eS r) := by
  unfold n_law_names at h
  refine runF_wp rfl ?_
  show Wp (F_law_names [some (.p (eLs D.int p_law_script)), none, none, none, none, none]) _
  unfold F_law_names
  refine w_seq (e1 := [some (.p (eLs D.int p_law_script)), some (.p (eS (cod "bcdfgjkmnpqvwxyz"))), none, none, none, none]) (w_set2 (e_s "bcdfgjkmnpqvwxyz") rfl rfl) ?_
  refine bnd h fun x1 hx1 h => ?_
  refine bnd h fun x2 hx2 h => ?_
  refine w_seq (e1 := [some (.p (eLs D.int p_law_script)), some (.p (eS (cod "bcdfgjkmnpqvwxyz"))), some (.p (eS x2)), none, none, none]) (w_set2 (e_op (e_s "zq") (e_call (a_c (e_v rfl) (a_c e_c (a_c e_c a_n))) rfl (l_law_draw hx1)) (g_rep hx2)) rfl rfl) ?_
  refine bnd h fun x3 hx3 h => ?_
  refine bnd h fun x4 hx4 h => ?_
  refine w_seq (e1 := [some (.p (eLs D.int p_law_script)), some (.p (eS (cod "bcdfgjkmnpqvwxyz"))), some (.p (eS x2)), some (.p (eS x4)), none, none]) (w_set2 (e_sl (e_s "vzb") o_n (o_s (e_call (a_c (e_v rfl) (a_c e_c (a_c e_c a_n))) rfl (l_law_draw hx3))) (s_s hx4)) rfl rfl) ?_
  refine bnd h fun x5 hx5 h => ?_
  refine w_seq (e1 := [some (.p (eLs D.int p_law_script)), some (.p (eS (cod "bcdfgjkmnpqvwxyz"))), some (.p (eS x2)), some (.p (eS x4)), some (.p (D.int x5)), none]) (w_set2 (e_fz (d := D.int x5) (e_call (a_c (e_v rfl) (a_c e_c (a_c e_c a_n))) rfl (l_law_draw hx5)) (u_p _)) rfl rfl) ?_
  refine w_one ?_
  refine bnd h fun x6 hx6 h => ?_
  refine bnd h fun c11 hc11 h => ?_
  have h := Option.some.inj h
  subst h
  exact w_sret (e_compP (w := [some (.p (eLs D.int p_law_script)), some (.p (eS (cod "bcdfgjkmnpqvwxyz"))), some (.p (eS x2)), some (.p (eS x4)), some (.p (D.int x5)), none]) (dd := D.int) (E := eS) (i_r1 (a_c e_c a_n) hx6) rfl ((compO_F _ _).symm.trans hc11) (fun x7 => ⟨_, rfl, _, rfl, (fun hp => nomatch hp), fun y hp h => by
    refine bnd h fun x8 hx8 h => ?_
    refine bnd h fun x9 hx9 h => ?_
    refine bnd h fun x10 hx10 h => ?_
    have h := Option.some.inj h; subst h
    exact ⟨_, (e_op (e_op (e_v rfl) (e_w (e_ix (e_b rfl) (e_op (e_op (e_v rfl) (e_v rfl) rfl) e_c (g_modR rfl)) (x_s hx8))) (g_cat hx9)) (e_v rfl) (g_cat hx10)), rfl⟩⟩)) (Or.inl rfl)
def n_law_coins (p_law_script : List Int) (p_law_k : Int) : Option Int :=
  ((if (decide ((0 : Int) < (p_law_script.length : Int))) = true then
  ((modN p_law_k (p_law_script.length : Int)).bind fun x1 =>
  (atI p_law_script x1).bind fun x2 =>
  some x2)
  else (some (0 : Int))) : Option Int).bind fun s3 =>
  (n_law_draw p_law_script (900 : Int) (3 : Int)).bind fun x4 =>
  (if (decide ((0 : Int) < x4)) = true then
  ((n_law_draw p_law_script p_law_k (9 : Int)).bind fun x5 =>
  some ((1 : Int) + x5))
  else ((mulN p_law_k p_law_k).bind fun x6 =>
  (mulN (((s3 % (10000000000000000000000000000000000000000 : Int)) + x6) + (1 : Int)) (262078551400494415750351 : Int)).bind fun x7 =>
  some ((1 : Int) + (x7 % (1000000000000 : Int)))))
theorem l_law_coins {p_law_script : List Int} {p_law_k : Int} {r : Int} (h : n_law_coins p_law_script p_law_k = some r) : phi_law_coins [(eLs D.int) p_law_script, D.int p_law_k] = some (.p (D.int r)) := by
  unfold n_law_coins at h
  refine runF_wp rfl ?_
  show Wp (F_law_coins [some (.p (eLs D.int p_law_script)), some (.p (D.int p_law_k)), none]) _
  unfold F_law_coins
  refine w_seq (e1 := [some (.p (eLs D.int p_law_script)), some (.p (D.int p_law_k)), some (.p (D.int (0 : Int)))]) (w_set2 e_c rfl rfl) ?_
  refine bnd h fun s3 hs3 h => ?_
  refine w_join (P := (fun e => e = [some (.p (eLs D.int p_law_script)), some (.p (D.int p_law_k)), some (.p (D.int s3))])) ?_ (fun e he => ?_)
  · have h := hs3
    refine w_one ?_
    refine w_if (c_t (e_cmp (e_b1 (e_b rfl) (g_lenL _ _)) e_c (u_p _) (u_p _) rfl)) h (fun hb h => ?_) (fun hb h => ?_)
    · refine w_un ?_
      refine w_one ?_
      refine bnd h fun x1 hx1 h => ?_
      refine bnd h fun x2 hx2 h => ?_
      refine w_seq (e1 := [some (.p (eLs D.int p_law_script)), some (.p (D.int p_law_k)), some (.p (D.int x2))]) (w_set2 (e_w (e_ix (e_b rfl) (e_op (e_v rfl) (e_b1 (e_b rfl) (g_lenL _ _)) (g_mod hx1)) (x_l hx2))) rfl rfl) ?_
      have h := Option.some.inj h
      subst h
      exact w_nx ⟨rfl, (by repeat (first | rfl | refine ⟨_, ?_⟩))⟩
    · refine w_un ?_
      have h := Option.some.inj h
      subst h
      exact w_nx ⟨rfl, (by repeat (first | rfl | refine ⟨_, ?_⟩))⟩
  · subst he
    refine bnd h fun x4 hx4 h => ?_
    refine w_if (c_t (e_cmp (e_call (a_c (e_v rfl) (a_c e_c (a_c e_c a_n))) rfl (l_law_draw hx4)) e_c (u_p _) (u_p _) rfl)) h (fun hb h => ?_) (fun hb h => ?_)
    · refine bnd h fun x5 hx5 h => ?_
      have h := Option.some.inj h
      subst h
      exact w_sret (e_op e_c (e_call (a_c (e_v rfl) (a_c (e_v rfl) (a_c e_c a_n))) rfl (l_law_draw hx5)) rfl) (Or.inl rfl)
    · refine w_snx ?_
      refine w_one ?_
      refine bnd h fun x6 hx6 h => ?_
      refine bnd h fun x7 hx7 h => ?_
      have h := Option.some.inj h
      subst h
      exact w_sret (e_op e_c (e_op (e_op (e_op (e_op (e_op (e_v rfl) (e_op e_c e_c ((g_powR rfl).trans (congrArg (fun z => some (D.int z)) (by decide)))) (g_modR rfl)) (e_op (e_v rfl) (e_v rfl) (g_mul hx6)) rfl) e_c rfl) (e_op e_c e_c ((g_powR rfl).trans (congrArg (fun z => some (D.int z)) (by decide)))) (g_mul hx7)) (e_op e_c e_c ((g_powR rfl).trans (congrArg (fun z => some (D.int z)) (by decide)))) (g_modR rfl)) rfl) (Or.inl rfl)
def n_law_rule (p_law_script : List Int) (p_law_k : Int) (p_law_claims : List Nm) (p_law_pots : List Nm) (p_law_others : List Nm) : Option D :=
  (n_law_draw p_law_script p_law_k (9 : Int)).bind fun x1 =>
  (n_law_draw p_law_script (p_law_k + (1 : Int)) (p_law_claims.length : Int)).bind fun x2 =>
  (atI p_law_claims x2).bind fun x3 =>
  (if (decide (x1 < (3 : Int))) = true then
  (some (eTSS ((cod "pay"), x3)))
  else ((if (decide (x1 = (3 : Int))) = true then ((if (decide ((1 : Int) < (p_law_claims.length : Int))) = true then ((n_law_draw p_law_script (p_law_k + (2 : Int)) (2 : Int)).bind fun x4 =>
  some (decide (x4 = (0 : Int)))) else some false).bind fun x5 =>
  some x5) else some false).bind fun x6 =>
  (if x6 = true then
  (some (eR1 ((cod "share"), (cutA p_law_claims none (some (2 : Int))))))
  else ((if ((decide (x1 = (3 : Int))) && (decide ((1 : Int) < (p_law_claims.length : Int)))) = true then
  ((catL (cutA p_law_claims (some (-(1 : Int))) none) (cutA p_law_claims none (some (-(1 : Int))))).bind fun x7 =>
  some (eR1 ((cod "share"), x7)))
  else ((if (decide (x1 = (4 : Int))) = true then
  (some (eTSS ((cod "repay"), x3)))
  else ((if ((decide (x1 = (5 : Int))) && (decide ((0 : Int) < (p_law_pots.length : Int)))) = true then
  ((n_law_draw p_law_script (p_law_k + (2 : Int)) (p_law_pots.length : Int)).bind fun x8 =>
  (atI p_law_pots x8).bind fun x9 =>
  some (eTSS ((cod "fill"), x9)))
  else ((if ((decide ((5 : Int) < x1)) && (decide ((0 : Int) < (p_law_others.length : Int)))) = true then
  ((n_law_draw p_law_script (p_law_k + (2 : Int)) (p_law_others.length : Int)).bind fun x10 =>
  (atI p_law_others x10).bind fun x11 =>
  (if (decide (x1 = (8 : Int))) = true then
  (some (eTSS ((cod "back"), x11)))
  else ((n_law_coins p_law_script (p_law_k + (3 : Int))).bind fun x12 =>
  some (eTSSI ((cod "lend"), x11, x12)))))
  else (some (eTSS ((cod "pay"), x3))))))))))))))
theorem l_law_rule {p_law_script : List Int} {p_law_k : Int} {p_law_claims : List Nm} {p_law_pots : List Nm} {p_law_others : List Nm} {r : D} (h : n_law_rule p_law_script p_law_k p_law_claims p_law_pots p_law_others = some r) : phi_law_rule [(eLs D.int) p_law_script, D.int p_law_k, (eLs eS) p_law_claims, (eLs eS) p_law_pots, (eLs eS) p_law_others] = some (.p r) := by
  unfold n_law_rule at h
  refine runF_wp rfl ?_
  show Wp (F_law_rule [some (.p (eLs D.int p_law_script)), some (.p (D.int p_law_k)), some (.p (eLs eS p_law_claims)), some (.p (eLs eS p_law_pots)), some (.p (eLs eS p_law_others)), none, none, none]) _
  unfold F_law_rule
  refine bnd h fun x1 hx1 h => ?_
  refine w_seq (e1 := [some (.p (eLs D.int p_law_script)), some (.p (D.int p_law_k)), some (.p (eLs eS p_law_claims)), some (.p (eLs eS p_law_pots)), some (.p (eLs eS p_law_others)), some (.p (D.int x1)), none, none]) (w_set2 (e_fz (d := D.int x1) (e_call (a_c (e_v rfl) (a_c (e_v rfl) (a_c e_c a_n))) rfl (l_law_draw hx1)) (u_p _)) rfl rfl) ?_
  refine bnd h fun x2 hx2 h => ?_
  refine bnd h fun x3 hx3 h => ?_
  refine w_seq (e1 := [some (.p (eLs D.int p_law_script)), some (.p (D.int p_law_k)), some (.p (eLs eS p_law_claims)), some (.p (eLs eS p_law_pots)), some (.p (eLs eS p_law_others)), some (.p (D.int x1)), some (.p (eS x3)), none]) (w_set2 (e_w (e_ix (e_b rfl) (e_call (a_c (e_v rfl) (a_c (e_op (e_v rfl) e_c rfl) (a_c (e_b1 (e_b rfl) (g_lenL _ _)) a_n))) rfl (l_law_draw hx2)) (x_l hx3))) rfl rfl) ?_
  refine w_if (c_t (e_cmp (e_b rfl) e_c (u_p _) (u_p _) rfl)) h (fun hb h => ?_) (fun hb h => ?_)
  · have h := Option.some.inj h
    subst h
    exact w_sret (e_t (a_c (e_s "pay") (a_c (e_m rfl) a_n)) rfl (show _ = ((.p (eTSS ((cod "pay"), x3))) : T) from rfl)) (Or.inl rfl)
  · refine w_snx ?_
    refine bnd h fun x6 hx6 h => ?_
    refine w_if (c_andO (c_t (e_cmp (e_b rfl) e_c (u_p _) (u_p _) eqQ_i)) hx6 (fun _ h => by
    refine bnd h fun x5 hx5 h => ?_
    have h := Option.some.inj h; subst h
    exact (c_andO (c_t (e_cmp (e_b1 (e_b rfl) (g_lenL _ _)) e_c (u_p _) (u_p _) rfl)) hx5 (fun _ h => by
    refine bnd h fun x4 hx4 h => ?_
    have h := Option.some.inj h; subst h
    exact (c_t (e_cmp (e_call (a_c (e_v rfl) (a_c (e_op (e_v rfl) e_c rfl) (a_c e_c a_n))) rfl (l_law_draw hx4)) e_c (u_p _) (u_p _) eqQ_i)))))) h (fun hb h => ?_) (fun hb h => ?_)
    · have h := Option.some.inj h
      subst h
      exact w_sret (e_t (a_c (e_s "share") (a_c (e_tuple (e_sl (e_b rfl) o_n (o_s e_c) s_l) (it_o _ _)) a_n)) rfl (show _ = ((.p (eR1 ((cod "share"), (cutA p_law_claims none (some (2 : Int)))))) : T) from rfl)) (Or.inl rfl)
    · refine w_snx ?_
      refine w_if (c_and (c_t (e_cmp (e_b rfl) e_c (u_p _) (u_p _) eqQ_i)) (c_t (e_cmp (e_b1 (e_b rfl) (g_lenL _ _)) e_c (u_p _) (u_p _) rfl))) h (fun hb h => ?_) (fun hb h => ?_)
      · refine bnd h fun x7 hx7 h => ?_
        have h := Option.some.inj h
        subst h
        exact w_sret (e_t (a_c (e_s "share") (a_c (e_tuple (e_cat (e_sl (e_b rfl) (o_s (e_neg e_c)) o_n s_l) (e_sl (e_b rfl) o_n (o_s (e_neg e_c)) s_l) (it_o _ _) (it_o _ _) rfl rfl hx7) (it_o _ _)) a_n)) rfl (show _ = ((.p (eR1 ((cod "share"), x7))) : T) from rfl)) (Or.inl rfl)
      · refine w_snx ?_
        refine w_if (c_t (e_cmp (e_b rfl) e_c (u_p _) (u_p _) eqQ_i)) h (fun hb h => ?_) (fun hb h => ?_)
        · have h := Option.some.inj h
          subst h
          exact w_sret (e_t (a_c (e_s "repay") (a_c (e_m rfl) a_n)) rfl (show _ = ((.p (eTSS ((cod "repay"), x3))) : T) from rfl)) (Or.inl rfl)
        · refine w_snx ?_
          refine w_if (c_and (c_t (e_cmp (e_b rfl) e_c (u_p _) (u_p _) eqQ_i)) (c_t (e_cmp (e_b1 (e_b rfl) (g_lenL _ _)) e_c (u_p _) (u_p _) rfl))) h (fun hb h => ?_) (fun hb h => ?_)
          · refine bnd h fun x8 hx8 h => ?_
            refine bnd h fun x9 hx9 h => ?_
            have h := Option.some.inj h
            subst h
            exact w_sret (e_t (a_c (e_s "fill") (a_c (e_w (e_ix (e_b rfl) (e_call (a_c (e_v rfl) (a_c (e_op (e_v rfl) e_c rfl) (a_c (e_b1 (e_b rfl) (g_lenL _ _)) a_n))) rfl (l_law_draw hx8)) (x_l hx9))) a_n)) rfl (show _ = ((.p (eTSS ((cod "fill"), x9))) : T) from rfl)) (Or.inl rfl)
          · refine w_snx ?_
            refine w_if (c_and (c_t (e_cmp (e_b rfl) e_c (u_p _) (u_p _) rfl)) (c_t (e_cmp (e_b1 (e_b rfl) (g_lenL _ _)) e_c (u_p _) (u_p _) rfl))) h (fun hb h => ?_) (fun hb h => ?_)
            · refine w_assoc ?_
              refine bnd h fun x10 hx10 h => ?_
              refine bnd h fun x11 hx11 h => ?_
              refine w_seq (e1 := [some (.p (eLs D.int p_law_script)), some (.p (D.int p_law_k)), some (.p (eLs eS p_law_claims)), some (.p (eLs eS p_law_pots)), some (.p (eLs eS p_law_others)), some (.p (D.int x1)), some (.p (eS x3)), some (.p (eS x11))]) (w_set2 (e_w (e_ix (e_b rfl) (e_call (a_c (e_v rfl) (a_c (e_op (e_v rfl) e_c rfl) (a_c (e_b1 (e_b rfl) (g_lenL _ _)) a_n))) rfl (l_law_draw hx10)) (x_l hx11))) rfl rfl) ?_
              refine w_assoc ?_
              refine w_if (c_t (e_cmp (e_b rfl) e_c (u_p _) (u_p _) eqQ_i)) h (fun hb h => ?_) (fun hb h => ?_)
              · have h := Option.some.inj h
                subst h
                exact w_sret (e_t (a_c (e_s "back") (a_c (e_m rfl) a_n)) rfl (show _ = ((.p (eTSS ((cod "back"), x11))) : T) from rfl)) (Or.inl rfl)
              · refine w_snx ?_
                refine bnd h fun x12 hx12 h => ?_
                have h := Option.some.inj h
                subst h
                exact w_sret (e_t (a_c (e_s "lend") (a_c (e_m rfl) (a_c (e_call (a_c (e_v rfl) (a_c (e_op (e_v rfl) e_c rfl) a_n)) rfl (l_law_coins hx12)) a_n))) rfl (show _ = ((.p (eTSSI ((cod "lend"), x11, x12))) : T) from rfl)) (Or.inl rfl)
            · refine w_snx ?_
              refine w_one ?_
              have h := Option.some.inj h
              subst h
              exact w_sret (e_t (a_c (e_s "pay") (a_c (e_m rfl) a_n)) rfl (show _ = ((.p (eTSS ((cod "pay"), x3))) : T) from rfl)) (Or.inl rfl)
def n_law_order (p_law_script : List Int) (p_law_k : Int) (p_law_name : Nm) (p_law_claims : List Nm) (p_law_pots : List Nm) (p_law_others : List Nm) : Option R2 :=
  (fold (fun (x2 : TIS) (s1 : (List TSI)) =>
  (n_law_draw p_law_script (p_law_k + x2.1) (4 : Int)).bind fun x5 =>
  (if (decide (x5 = (0 : Int))) = true then
  ((n_law_draw p_law_script ((p_law_k + (5 : Int)) + x2.1) (10 : Int)).bind fun x6 =>
  (push s1 (x2.2, ((1 : Int) + x6))).bind fun x7 =>
  some x7)
  else (some s1))) (enumN 0 p_law_claims) ([] : List TSI)).bind fun s8 =>
  (n_law_draw p_law_script (p_law_k + (8 : Int)) (6 : Int)).bind fun x9 =>
  (rng1  x9).bind fun x10 =>
  (fold (fun (x12 : Int) (s11 : (List D)) =>
  (n_law_rule p_law_script ((p_law_k + (10 : Int)) + ((5 : Int) * x12)) p_law_claims p_law_pots p_law_others).bind fun x14 =>
  (push s11 x14).bind fun x15 =>
  some x15) x10 ([] : List D)).bind fun s16 =>
  (n_law_draw p_law_script (p_law_k + (9 : Int)) (p_law_claims.length : Int)).bind fun x17 =>
  (atI p_law_claims x17).bind fun x18 =>
  (catL s16 [eTSS ((cod "rest"), x18)]).bind fun x19 =>
  some (p_law_name, s8, x19)
theorem l_law_order {p_law_script : List Int} {p_law_k : Int} {p_law_name : Nm} {p_law_claims : List Nm} {p_law_pots : List Nm} {p_law_others : List Nm} {r : R2} (h : n_law_order p_law_script p_law_k p_law_name p_law_claims p_law_pots p_law_others = some r) : phi_law_order [(eLs D.int) p_law_script, D.int p_law_k, eS p_law_name, (eLs eS) p_law_claims, (eLs eS) p_law_pots, (eLs eS) p_law_others] = some (.tup [(.p (eS r.1)), (oL eTSI r.2.1), (oL eD r.2.2)]) := by
  unfold n_law_order at h
  refine runF_wp rfl ?_
  show Wp (F_law_order [some (.p (eLs D.int p_law_script)), some (.p (D.int p_law_k)), some (.p (eS p_law_name)), some (.p (eLs eS p_law_claims)), some (.p (eLs eS p_law_pots)), some (.p (eLs eS p_law_others)), none, none, none, none, none]) _
  unfold F_law_order
  refine w_seq (e1 := [some (.p (eLs D.int p_law_script)), some (.p (D.int p_law_k)), some (.p (eS p_law_name)), some (.p (eLs eS p_law_claims)), some (.p (eLs eS p_law_pots)), some (.p (eLs eS p_law_others)), some (oL eTSI ([] : List TSI)), none, none, none, none]) (w_set2 (e_l a_n rfl rfl) rfl rfl) ?_
  refine bnd h fun s8 hs8 h => ?_
  refine w_for (P := (fun e => ∃ u3, ∃ u4, e = [some (.p (eLs D.int p_law_script)), some (.p (D.int p_law_k)), some (.p (eS p_law_name)), some (.p (eLs eS p_law_claims)), some (.p (eLs eS p_law_pots)), some (.p (eLs eS p_law_others)), some (oL eTSI s8), u3, u4, none, none])) (i_en (a_c (e_v rfl) a_n)) (loop_fold (dd := eTIS) (fun (s1 : (List TSI)) e => ∃ u3, ∃ u4, e = [some (.p (eLs D.int p_law_script)), some (.p (D.int p_law_k)), some (.p (eS p_law_name)), some (.p (eLs eS p_law_claims)), some (.p (eLs eS p_law_pots)), some (.p (eLs eS p_law_others)), some (oL eTSI s1), u3, u4, none, none]) ?_ _ _ _ _ ⟨_, _, rfl⟩ hs8) (fun e he => ?_)
  · intro x2 s1 sN env hR h
    obtain ⟨u3, u4, rfl⟩ := hR
    refine ⟨_, rfl, ?_⟩
    unfold B_law_order_1
    refine w_one ?_
    refine bnd h fun x5 hx5 h => ?_
    refine w_if (c_t (e_cmp (e_call (a_c (e_v rfl) (a_c (e_op (e_v rfl) (e_v rfl) rfl) (a_c e_c a_n))) rfl (l_law_draw hx5)) e_c (u_p _) (u_p _) eqQ_i)) h (fun hb h => ?_) (fun hb h => ?_)
    · refine bnd h fun x6 hx6 h => ?_
      refine bnd h fun x7 hx7 h => ?_
      refine w_seq (e1 := [some (.p (eLs D.int p_law_script)), some (.p (D.int p_law_k)), some (.p (eS p_law_name)), some (.p (eLs eS p_law_claims)), some (.p (eLs eS p_law_pots)), some (.p (eLs eS p_law_others)), some (oL eTSI x7), some (.p (D.int x2.1)), some (.p (eS x2.2)), none, none]) (w_appL2 (dd := eTSI) rfl (e_fz (d := eTSI (x2.2, ((1 : Int) + x6))) (e_t (a_c (e_v rfl) (a_c (e_op e_c (e_call (a_c (e_v rfl) (a_c (e_op (e_op (e_v rfl) e_c rfl) (e_v rfl) rfl) (a_c e_c a_n))) rfl (l_law_draw hx6)) rfl) a_n)) rfl (show _ = ((.p (eTSI (x2.2, ((1 : Int) + x6)))) : T) from rfl)) (u_p _)) rfl hx7 rfl) ?_
      have h := Option.some.inj h
      subst h
      exact w_nx ⟨Or.inl rfl, ⟨_, _, rfl⟩⟩
    · refine w_snx ?_
      have h := Option.some.inj h
      subst h
      exact w_nx ⟨Or.inl rfl, ⟨_, _, rfl⟩⟩
  · obtain ⟨u3, u4, rfl⟩ := he
    refine w_seq (e1 := [some (.p (eLs D.int p_law_script)), some (.p (D.int p_law_k)), some (.p (eS p_law_name)), some (.p (eLs eS p_law_claims)), some (.p (eLs eS p_law_pots)), some (.p (eLs eS p_law_others)), some (oL eTSI s8), u3, u4, some (oL eD ([] : List D)), none]) (w_set2 (e_l a_n rfl rfl) rfl rfl) ?_
    refine bnd h fun x9 hx9 h => ?_
    refine bnd h fun x10 hx10 h => ?_
    refine bnd h fun s16 hs16 h => ?_
    refine w_for (P := (fun e => ∃ u13, e = [some (.p (eLs D.int p_law_script)), some (.p (D.int p_law_k)), some (.p (eS p_law_name)), some (.p (eLs eS p_law_claims)), some (.p (eLs eS p_law_pots)), some (.p (eLs eS p_law_others)), some (oL eTSI s8), u13, u4, some (oL eD s16), none])) (i_r1 (a_c (e_call (a_c (e_v rfl) (a_c (e_op (e_v rfl) e_c rfl) (a_c e_c a_n))) rfl (l_law_draw hx9)) a_n) hx10) (loop_fold (dd := D.int) (fun (s11 : (List D)) e => ∃ u13, e = [some (.p (eLs D.int p_law_script)), some (.p (D.int p_law_k)), some (.p (eS p_law_name)), some (.p (eLs eS p_law_claims)), some (.p (eLs eS p_law_pots)), some (.p (eLs eS p_law_others)), some (oL eTSI s8), u13, u4, some (oL eD s11), none]) ?_ _ _ _ _ ⟨_, rfl⟩ hs16) (fun e he => ?_)
    · intro x12 s11 sN env hR h
      obtain ⟨u13, rfl⟩ := hR
      refine ⟨_, rfl, ?_⟩
      unfold B_law_order_2
      refine w_one ?_
      refine bnd h fun x14 hx14 h => ?_
      refine bnd h fun x15 hx15 h => ?_
      refine w_seq (e1 := [some (.p (eLs D.int p_law_script)), some (.p (D.int p_law_k)), some (.p (eS p_law_name)), some (.p (eLs eS p_law_claims)), some (.p (eLs eS p_law_pots)), some (.p (eLs eS p_law_others)), some (oL eTSI s8), some (.p (D.int x12)), u4, some (oL eD x15), none]) (w_appL2 (dd := eD) rfl (e_fz (d := eD x14) (e_call (a_c (e_v rfl) (a_c (e_op (e_op (e_v rfl) e_c rfl) (e_op e_c (e_v rfl) (g_mulL rfl)) rfl) (a_c (e_v rfl) (a_c (e_v rfl) (a_c (e_v rfl) a_n))))) rfl (l_law_rule hx14)) (u_p _)) rfl hx15 rfl) ?_
      have h := Option.some.inj h
      subst h
      exact w_nx ⟨Or.inl rfl, ⟨_, rfl⟩⟩
    · obtain ⟨u13, rfl⟩ := he
      refine bnd h fun x17 hx17 h => ?_
      refine bnd h fun x18 hx18 h => ?_
      refine w_seq (e1 := [some (.p (eLs D.int p_law_script)), some (.p (D.int p_law_k)), some (.p (eS p_law_name)), some (.p (eLs eS p_law_claims)), some (.p (eLs eS p_law_pots)), some (.p (eLs eS p_law_others)), some (oL eTSI s8), u13, u4, some (oL eD s16), some (.p (eS x18))]) (w_set2 (e_w (e_ix (e_b rfl) (e_call (a_c (e_v rfl) (a_c (e_op (e_v rfl) e_c rfl) (a_c (e_b1 (e_b rfl) (g_lenL _ _)) a_n))) rfl (l_law_draw hx17)) (x_l hx18))) rfl rfl) ?_
      refine w_one ?_
      refine bnd h fun x19 hx19 h => ?_
      have h := Option.some.inj h
      subst h
      exact w_sret (e_t (a_c (e_m rfl) (a_c (e_m rfl) (a_c (e_cat (e_b rfl) (e_l (a_c (e_t (a_c (e_s "rest") (a_c (e_v rfl) a_n)) rfl (show _ = ((.p (eTSS ((cod "rest"), x18))) : T) from rfl)) a_n) rfl (show _ = ((oL eD [eTSS ((cod "rest"), x18)]) : T) from rfl)) (it_o _ _) (it_o _ _) rfl rfl hx19) a_n))) rfl (show _ = ((.tup [(.p (eS ((p_law_name, s8, x19).1))), (oL eTSI ((p_law_name, s8, x19).2.1)), (oL eD ((p_law_name, s8, x19).2.2))]) : T) from rfl)) (Or.inl rfl)
def n_law_free (p_law_orders : List R2) (p_law_claims : List Nm) : Option (List Nm) :=
  (fold (fun (x2 : R2) (s1 : (List D)) =>
  (fold (fun (x8 : D) (s7 : (List D)) =>
  (ixD x8 (0 : Int)).bind fun x10 =>
  (eqQ (eD x10) (eS (cod "share"))).bind fun x11 =>
  ((if x11 = true then
  ((ixD x8 (1 : Int)).bind fun x12 =>
  (itemsT (.p x12)).bind fun x13 =>
  (catL s7 x13).bind fun x14 =>
  some x14)
  else (some s7)) : Option ((List D))).bind fun s15 =>
  (ixD x8 (0 : Int)).bind fun x16 =>
  (eqQ (eD x16) (eS (cod "repay"))).bind fun x17 =>
  (if x17 = true then
  ((ixD x8 (1 : Int)).bind fun x18 =>
  (push s15 x18).bind fun x19 =>
  some x19)
  else (some s15))) x2.2.2 s1).bind fun s20 =>
  some s20) p_law_orders ([] : List D)).bind fun s21 =>
  (compG (fun (x22 : Nm) =>
  (inQ (eS x22) ((eLs eD) s21)).bind fun x23 =>
  (if (!x23) = true then (some (some x22)) else some none)) p_law_claims).bind fun c24 =>
  some c24
theorem l_law_free {p_law_orders : List R2} {p_law_claims : List Nm} {r : List Nm} (h : n_law_free p_law_orders p_law_claims = some r) : phi_law_free [(eLs eR2) p_law_orders, (eLs eS) p_law_claims] = some (oL eS r) := by
  unfold n_law_free at h
  refine runF_wp rfl ?_
  show Wp (F_law_free [some (.p (eLs eR2 p_law_orders)), some (.p (eLs eS p_law_claims)), none, none, none, none, none, none]) _
  unfold F_law_free
  refine w_seq (e1 := [some (.p (eLs eR2 p_law_orders)), some (.p (eLs eS p_law_claims)), some (oL eD ([] : List D)), none, none, none, none, none]) (w_set2 (e_l a_n rfl rfl) rfl rfl) ?_
  refine bnd h fun s21 hs21 h => ?_
  refine w_for (P := (fun e => ∃ u3, ∃ u4, ∃ u5, ∃ u6, e = [some (.p (eLs eR2 p_law_orders)), some (.p (eLs eS p_law_claims)), some (oL eD s21), u3, u4, u5, u6, none])) (i_l (e_v rfl)) (loop_fold (dd := eR2) (fun (s1 : (List D)) e => ∃ u3, ∃ u4, ∃ u5, ∃ u6, e = [some (.p (eLs eR2 p_law_orders)), some (.p (eLs eS p_law_claims)), some (oL eD s1), u3, u4, u5, u6, none]) ?_ _ _ _ _ ⟨_, _, _, _, rfl⟩ hs21) (fun e he => ?_)
  · intro x2 s1 sN env hR h
    obtain ⟨u3, u4, u5, u6, rfl⟩ := hR
    refine ⟨_, rfl, ?_⟩
    unfold B_law_free_2
    refine w_one ?_
    refine bnd h fun s20 hs20 h => ?_
    refine w_for (P := (fun e => ∃ u9, e = [some (.p (eLs eR2 p_law_orders)), some (.p (eLs eS p_law_claims)), some (oL eD s20), some (.p (eS x2.1)), some (.p (eLs eTSI x2.2.1)), some (.p (eLs eD x2.2.2)), u9, none])) (i_l (e_v rfl)) (loop_fold (dd := eD) (fun (s7 : (List D)) e => ∃ u9, e = [some (.p (eLs eR2 p_law_orders)), some (.p (eLs eS p_law_claims)), some (oL eD s7), some (.p (eS x2.1)), some (.p (eLs eTSI x2.2.1)), some (.p (eLs eD x2.2.2)), u9, none]) ?_ _ _ _ _ ⟨_, rfl⟩ hs20) (fun e he => ?_)
    · intro x8 s7 sN env hR h
      obtain ⟨u9, rfl⟩ := hR
      refine ⟨_, rfl, ?_⟩
      unfold B_law_free_1
      refine bnd h fun x10 hx10 h => ?_
      refine bnd h fun x11 hx11 h => ?_
      refine bnd h fun s15 hs15 h => ?_
      refine w_join (P := (fun e => e = [some (.p (eLs eR2 p_law_orders)), some (.p (eLs eS p_law_claims)), some (oL eD s15), some (.p (eS x2.1)), some (.p (eLs eTSI x2.2.1)), some (.p (eLs eD x2.2.2)), some (.p x8), none])) ?_ (fun e he => ?_)
      · have h := hs15
        refine w_one ?_
        refine w_if (c_t (e_cmp (e_ix (e_b rfl) e_c (x_d hx10)) (e_s "share") (u_p _) (u_p _) hx11)) h (fun hb h => ?_) (fun hb h => ?_)
        · refine w_un ?_
          refine w_one ?_
          refine bnd h fun x12 hx12 h => ?_
          refine bnd h fun x13 hx13 h => ?_
          refine bnd h fun x14 hx14 h => ?_
          refine w_seq (e1 := [some (.p (eLs eR2 p_law_orders)), some (.p (eLs eS p_law_claims)), some (oL eD x14), some (.p (eS x2.1)), some (.p (eLs eTSI x2.2.1)), some (.p (eLs eD x2.2.2)), some (.p x8), none]) (w_set2 (e_cat (e_b rfl) (e_list (e_ix (e_b rfl) e_c (x_d hx12)) hx13 (eD_map _)) (it_o _ _) (it_o _ _) rfl rfl hx14) rfl rfl) ?_
          have h := Option.some.inj h
          subst h
          exact w_nx ⟨rfl, (by repeat (first | rfl | refine ⟨_, ?_⟩))⟩
        · refine w_un ?_
          have h := Option.some.inj h
          subst h
          exact w_nx ⟨rfl, (by repeat (first | rfl | refine ⟨_, ?_⟩))⟩
      · subst he
        refine w_one ?_
        refine bnd h fun x16 hx16 h => ?_
        refine bnd h fun x17 hx17 h => ?_
        refine w_if (c_t (e_cmp (e_ix (e_b rfl) e_c (x_d hx16)) (e_s "repay") (u_p _) (u_p _) hx17)) h (fun hb h => ?_) (fun hb h => ?_)
        · refine bnd h fun x18 hx18 h => ?_
          refine bnd h fun x19 hx19 h => ?_
          refine w_seq (e1 := [some (.p (eLs eR2 p_law_orders)), some (.p (eLs eS p_law_claims)), some (oL eD x19), some (.p (eS x2.1)), some (.p (eLs eTSI x2.2.1)), some (.p (eLs eD x2.2.2)), some (.p x8), none]) (w_appL2 (dd := eD) rfl (e_w (e_ix (e_b rfl) e_c (x_d hx18))) rfl hx19 rfl) ?_
          have h := Option.some.inj h
          subst h
          exact w_nx ⟨Or.inl rfl, ⟨_, rfl⟩⟩
        · refine w_snx ?_
          have h := Option.some.inj h
          subst h
          exact w_nx ⟨Or.inl rfl, ⟨_, rfl⟩⟩
    · obtain ⟨u9, rfl⟩ := he
      have h := Option.some.inj h
      subst h
      exact w_nx ⟨Or.inl rfl, ⟨_, _, _, _, rfl⟩⟩
  · obtain ⟨u3, u4, u5, u6, rfl⟩ := he
    refine w_one ?_
    refine bnd h fun c24 hc24 h => ?_
    have h := Option.some.inj h
    subst h
    exact w_sret (e_compGP (w := [some (.p (eLs eR2 p_law_orders)), some (.p (eLs eS p_law_claims)), some (oL eD s21), u3, u4, u5, u6, none]) (dd := eS) (E := eS) (i_l (e_v rfl)) rfl hc24 (fun x22 o h => by
    refine bnd h fun x23 hx23 h => ?_
    refine ⟨_, rfl, _, _, (c_t (e_cmp (x := eS x22) (y := (eLs eD) s21) (e_b rfl) (e_b rfl) (u_p _) (oL_toD _) (g_nin hx23))), ?_⟩
    refine ifs h (fun hb h => Or.inr ?_) (fun hb h => Or.inl ?_)
    · refine ⟨hb, ?_⟩
      have h := Option.some.inj h; subst h
      exact ⟨_, rfl, _, (e_v rfl), rfl⟩
    · exact ⟨hb, (Option.some.inj h).symm, rfl⟩)) (Or.inl rfl)
def n_law_some (p_law_script : List Int) (p_law_k : Int) (p_law_names_here : List Nm) : Option (List Nm) :=
  (fold (fun (x2 : TIS) (s1 : (List Nm)) =>
  (n_law_draw p_law_script (p_law_k + x2.1) (3 : Int)).bind fun x5 =>
  (if (decide ((0 : Int) < x5)) = true then
  ((push s1 x2.2).bind fun x6 =>
  some x6)
  else (some s1))) (enumN 0 p_law_names_here) ([] : List Nm)).bind fun s7 =>
  (n_law_draw p_law_script (p_law_k + (9 : Int)) (2 : Int)).bind fun x8 =>
  ((if (decide (x8 = (1 : Int))) = true then
  (some s7.reverse)
  else (some s7)) : Option ((List Nm))).bind fun s9 =>
  some s9
theorem l_law_some {p_law_script : List Int} {p_law_k : Int} {p_law_names_here : List Nm} {r : List Nm} (h : n_law_some p_law_script p_law_k p_law_names_here = some r) : phi_law_some [(eLs D.int) p_law_script, D.int p_law_k, (eLs eS) p_law_names_here] = some (oL eS r) := by
  unfold n_law_some at h
  refine runF_wp rfl ?_
  show Wp (F_law_some [some (.p (eLs D.int p_law_script)), some (.p (D.int p_law_k)), some (.p (eLs eS p_law_names_here)), none, none, none]) _
  unfold F_law_some
  refine w_seq (e1 := [some (.p (eLs D.int p_law_script)), some (.p (D.int p_law_k)), some (.p (eLs eS p_law_names_here)), some (oL eS ([] : List Nm)), none, none]) (w_set2 (e_l a_n rfl rfl) rfl rfl) ?_
  refine bnd h fun s7 hs7 h => ?_
  refine w_for (P := (fun e => ∃ u3, ∃ u4, e = [some (.p (eLs D.int p_law_script)), some (.p (D.int p_law_k)), some (.p (eLs eS p_law_names_here)), some (oL eS s7), u3, u4])) (i_en (a_c (e_v rfl) a_n)) (loop_fold (dd := eTIS) (fun (s1 : (List Nm)) e => ∃ u3, ∃ u4, e = [some (.p (eLs D.int p_law_script)), some (.p (D.int p_law_k)), some (.p (eLs eS p_law_names_here)), some (oL eS s1), u3, u4]) ?_ _ _ _ _ ⟨_, _, rfl⟩ hs7) (fun e he => ?_)
  · intro x2 s1 sN env hR h
    obtain ⟨u3, u4, rfl⟩ := hR
    refine ⟨_, rfl, ?_⟩
    unfold B_law_some_1
    refine w_one ?_
    refine bnd h fun x5 hx5 h => ?_
    refine w_if (c_t (e_cmp (e_call (a_c (e_v rfl) (a_c (e_op (e_v rfl) (e_v rfl) rfl) (a_c e_c a_n))) rfl (l_law_draw hx5)) e_c (u_p _) (u_p _) rfl)) h (fun hb h => ?_) (fun hb h => ?_)
    · refine bnd h fun x6 hx6 h => ?_
      refine w_seq (e1 := [some (.p (eLs D.int p_law_script)), some (.p (D.int p_law_k)), some (.p (eLs eS p_law_names_here)), some (oL eS x6), some (.p (D.int x2.1)), some (.p (eS x2.2))]) (w_appL2 (dd := eS) rfl (e_v rfl) rfl hx6 rfl) ?_
      have h := Option.some.inj h
      subst h
      exact w_nx ⟨Or.inl rfl, ⟨_, _, rfl⟩⟩
    · refine w_snx ?_
      have h := Option.some.inj h
      subst h
      exact w_nx ⟨Or.inl rfl, ⟨_, _, rfl⟩⟩
  · obtain ⟨u3, u4, rfl⟩ := he
    refine bnd h fun x8 hx8 h => ?_
    refine bnd h fun s9 hs9 h => ?_
    refine w_join (P := (fun e => e = [some (.p (eLs D.int p_law_script)), some (.p (D.int p_law_k)), some (.p (eLs eS p_law_names_here)), some (oL eS s9), u3, u4])) ?_ (fun e he => ?_)
    · have h := hs9
      refine w_one ?_
      refine w_if (c_t (e_cmp (e_call (a_c (e_v rfl) (a_c (e_op (e_v rfl) e_c rfl) (a_c e_c a_n))) rfl (l_law_draw hx8)) e_c (u_p _) (u_p _) eqQ_i)) h (fun hb h => ?_) (fun hb h => ?_)
      · refine w_un ?_
        refine w_one ?_
        refine w_seq (e1 := [some (.p (eLs D.int p_law_script)), some (.p (D.int p_law_k)), some (.p (eLs eS p_law_names_here)), some (oL eS s7.reverse), u3, u4]) (w_rev2 rfl rfl) ?_
        have h := Option.some.inj h
        subst h
        exact w_nx ⟨rfl, (by repeat (first | rfl | refine ⟨_, ?_⟩))⟩
      · refine w_un ?_
        have h := Option.some.inj h
        subst h
        exact w_nx ⟨rfl, (by repeat (first | rfl | refine ⟨_, ?_⟩))⟩
    · subst he
      refine w_one ?_
      have h := Option.some.inj h
      subst h
      exact w_sret (e_m rfl) (Or.inl rfl)
def n_law_pool (p_law_script : List Int) (p_law_k : Int) (p_law_name : Nm) (p_law_claims : List Nm) (p_law_pots : List Nm) (p_law_others : List Nm) : Option R3 :=
  (fold (fun (x2 : TIS) (s1 : (List TSII)) =>
  (n_law_coins p_law_script ((p_law_k + (20 : Int)) + x2.1)).bind fun x5 =>
  (n_law_coins p_law_script ((p_law_k + (24 : Int)) + x2.1)).bind fun x6 =>
  (push s1 (x2.2, x5, x6)).bind fun x7 =>
  some x7) (enumN 0 p_law_claims) ([] : List TSII)).bind fun s8 =>
  (n_law_draw p_law_script (p_law_k + (1 : Int)) (3 : Int)).bind fun x9 =>
  (fold (fun (x11 : TIS) (s10 : (List R2)) =>
  (n_law_order p_law_script ((p_law_k + ((60 : Int) * x11.1)) + (30 : Int)) x11.2 p_law_claims p_law_pots p_law_others).bind fun x14 =>
  (push s10 x14).bind fun x15 =>
  some x15) (enumN 0 (cutA [(cod "bb"), (cod "ck"), (cod "dd")] none (some ((1 : Int) + x9)))) ([] : List R2)).bind fun s16 =>
  (n_law_draw p_law_script (p_law_k + (2 : Int)) (3 : Int)).bind fun x17 =>
  (rng1  x17).bind fun x18 =>
  (fold (fun (x20 : Int) (s19 : (List TSIS)) =>
  (n_law_draw p_law_script ((p_law_k + (3 : Int)) + x20) (p_law_claims.length : Int)).bind fun x24 =>
  (atI p_law_claims x24).bind fun x25 =>
  (n_law_draw p_law_script ((p_law_k + (5 : Int)) + x20) ((cutA [(cod "bb"), (cod "ck"), (cod "dd")] none (some ((1 : Int) + x9))).length : Int)).bind fun x26 =>
  (atI (cutA [(cod "bb"), (cod "ck"), (cod "dd")] none (some ((1 : Int) + x9))) x26).bind fun x27 =>
  (n_law_draw p_law_script ((p_law_k + (7 : Int)) + x20) (3 : Int)).bind fun x28 =>
  (push s19 (x25, ((1 : Int) + x28), x27)).bind fun x29 =>
  some x29) x18 ([] : List TSIS)).bind fun s30 =>
  (n_law_free s16 p_law_claims).bind fun x31 =>
  (n_law_draw p_law_script (p_law_k + (10 : Int)) (4 : Int)).bind fun x32 =>
  (fold (fun (x34 : TIS) (s33 : (List TSS)) =>
  (if (decide ((0 : Int) < (p_law_pots.length : Int))) = true then
  ((n_law_draw p_law_script ((p_law_k + (11 : Int)) + x34.1) (p_law_pots.length : Int)).bind fun x37 =>
  (atI p_law_pots x37).bind fun x38 =>
  (push s33 (x38, x34.2)).bind fun x39 =>
  some x39)
  else (some s33))) (enumN 0 (cutA x31 none (some x32))) ([] : List TSS)).bind fun s40 =>
  (compO (fun (x41 : TIS) => (n_law_coins p_law_script ((p_law_k + (16 : Int)) + x41.1)).bind fun x42 =>
  some (x41.2, x42)) (enumN 0 p_law_pots)).bind fun c43 =>
  (n_law_some p_law_script (p_law_k + (13 : Int)) p_law_claims).bind fun x44 =>
  some (p_law_name, s8, c43, x44, s16, s30, s40)
theorem l_law_pool {p_law_script : List Int} {p_law_k : Int} {p_law_name : Nm} {p_law_claims : List Nm} {p_law_pots : List Nm} {p_law_others : List Nm} {r : R3} (h : n_law_pool p_law_script p_law_k p_law_name p_law_claims p_law_pots p_law_others = some r) : phi_law_pool [(eLs D.int) p_law_script, D.int p_law_k, eS p_law_name, (eLs eS) p_law_claims, (eLs eS) p_law_pots, (eLs eS) p_law_others] = some (.tup [(.p (eS r.1)), (oL eTSII r.2.1), (oL eTSI r.2.2.1), (oL eS r.2.2.2.1), (oL eR2 r.2.2.2.2.1), (oL eTSIS r.2.2.2.2.2.1), (oL eTSS r.2.2.2.2.2.2)]) := by
  unfold n_law_pool at h
  refine runF_wp rfl ?_
  show Wp (F_law_pool [some (.p (eLs D.int p_law_script)), some (.p (D.int p_law_k)), some (.p (eS p_law_name)), some (.p (eLs eS p_law_claims)), some (.p (eLs eS p_law_pots)), some (.p (eLs eS p_law_others)), none, none, none, none, none, none, none, none, none, none, none, none]) _
  unfold F_law_pool
  refine w_seq (e1 := [some (.p (eLs D.int p_law_script)), some (.p (D.int p_law_k)), some (.p (eS p_law_name)), some (.p (eLs eS p_law_claims)), some (.p (eLs eS p_law_pots)), some (.p (eLs eS p_law_others)), some (oL eTSII ([] : List TSII)), none, none, none, none, none, none, none, none, none, none, none]) (w_set2 (e_l a_n rfl rfl) rfl rfl) ?_
  refine bnd h fun s8 hs8 h => ?_
  refine w_for (P := (fun e => ∃ u3, ∃ u4, e = [some (.p (eLs D.int p_law_script)), some (.p (D.int p_law_k)), some (.p (eS p_law_name)), some (.p (eLs eS p_law_claims)), some (.p (eLs eS p_law_pots)), some (.p (eLs eS p_law_others)), some (oL eTSII s8), u3, u4, none, none, none, none, none, none, none, none, none])) (i_en (a_c (e_v rfl) a_n)) (loop_fold (dd := eTIS) (fun (s1 : (List TSII)) e => ∃ u3, ∃ u4, e = [some (.p (eLs D.int p_law_script)), some (.p (D.int p_law_k)), some (.p (eS p_law_name)), some (.p (eLs eS p_law_claims)), some (.p (eLs eS p_law_pots)), some (.p (eLs eS p_law_others)), some (oL eTSII s1), u3, u4, none, none, none, none, none, none, none, none, none]) ?_ _ _ _ _ ⟨_, _, rfl⟩ hs8) (fun e he => ?_)
  · intro x2 s1 sN env hR h
    obtain ⟨u3, u4, rfl⟩ := hR
    refine ⟨_, rfl, ?_⟩
    unfold B_law_pool_1
    refine w_one ?_
    refine bnd h fun x5 hx5 h => ?_
    refine bnd h fun x6 hx6 h => ?_
    refine bnd h fun x7 hx7 h => ?_
    refine w_seq (e1 := [some (.p (eLs D.int p_law_script)), some (.p (D.int p_law_k)), some (.p (eS p_law_name)), some (.p (eLs eS p_law_claims)), some (.p (eLs eS p_law_pots)), some (.p (eLs eS p_law_others)), some (oL eTSII x7), some (.p (D.int x2.1)), some (.p (eS x2.2)), none, none, none, none, none, none, none, none, none]) (w_appL2 (dd := eTSII) rfl (e_fz (d := eTSII (x2.2, x5, x6)) (e_t (a_c (e_v rfl) (a_c (e_call (a_c (e_v rfl) (a_c (e_op (e_op (e_v rfl) e_c rfl) (e_v rfl) rfl) a_n)) rfl (l_law_coins hx5)) (a_c (e_call (a_c (e_v rfl) (a_c (e_op (e_op (e_v rfl) e_c rfl) (e_v rfl) rfl) a_n)) rfl (l_law_coins hx6)) a_n))) rfl (show _ = ((.p (eTSII (x2.2, x5, x6))) : T) from rfl)) (u_p _)) rfl hx7 rfl) ?_
    have h := Option.some.inj h
    subst h
    exact w_nx ⟨Or.inl rfl, ⟨_, _, rfl⟩⟩
  · obtain ⟨u3, u4, rfl⟩ := he
    refine bnd h fun x9 hx9 h => ?_
    refine w_seq (e1 := [some (.p (eLs D.int p_law_script)), some (.p (D.int p_law_k)), some (.p (eS p_law_name)), some (.p (eLs eS p_law_claims)), some (.p (eLs eS p_law_pots)), some (.p (eLs eS p_law_others)), some (oL eTSII s8), u3, u4, some (oL eS (cutA [(cod "bb"), (cod "ck"), (cod "dd")] none (some ((1 : Int) + x9)))), none, none, none, none, none, none, none, none]) (w_set2 (e_sl (e_l (a_c (e_s "bb") (a_c (e_s "ck") (a_c (e_s "dd") a_n))) rfl (show _ = ((oL eS [(cod "bb"), (cod "ck"), (cod "dd")]) : T) from rfl)) o_n (o_s (e_op e_c (e_call (a_c (e_v rfl) (a_c (e_op (e_v rfl) e_c rfl) (a_c e_c a_n))) rfl (l_law_draw hx9)) rfl)) s_o) rfl rfl) ?_
    refine w_seq (e1 := [some (.p (eLs D.int p_law_script)), some (.p (D.int p_law_k)), some (.p (eS p_law_name)), some (.p (eLs eS p_law_claims)), some (.p (eLs eS p_law_pots)), some (.p (eLs eS p_law_others)), some (oL eTSII s8), u3, u4, some (oL eS (cutA [(cod "bb"), (cod "ck"), (cod "dd")] none (some ((1 : Int) + x9)))), some (oL eR2 ([] : List R2)), none, none, none, none, none, none, none]) (w_set2 (e_l a_n rfl rfl) rfl rfl) ?_
    refine bnd h fun s16 hs16 h => ?_
    refine w_for (P := (fun e => ∃ u12, ∃ u13, e = [some (.p (eLs D.int p_law_script)), some (.p (D.int p_law_k)), some (.p (eS p_law_name)), some (.p (eLs eS p_law_claims)), some (.p (eLs eS p_law_pots)), some (.p (eLs eS p_law_others)), some (oL eTSII s8), u12, u4, some (.p (eLs eS (cutA [(cod "bb"), (cod "ck"), (cod "dd")] none (some ((1 : Int) + x9))))), some (oL eR2 s16), u13, none, none, none, none, none, none])) (i_en (a_c (e_vl (d := (eLs eS) (cutA [(cod "bb"), (cod "ck"), (cod "dd")] none (some ((1 : Int) + x9)))) rfl (oL_toD _)) a_n)) (loop_fold (dd := eTIS) (fun (s10 : (List R2)) e => ∃ u12, ∃ u13, e = [some (.p (eLs D.int p_law_script)), some (.p (D.int p_law_k)), some (.p (eS p_law_name)), some (.p (eLs eS p_law_claims)), some (.p (eLs eS p_law_pots)), some (.p (eLs eS p_law_others)), some (oL eTSII s8), u12, u4, some (.p (eLs eS (cutA [(cod "bb"), (cod "ck"), (cod "dd")] none (some ((1 : Int) + x9))))), some (oL eR2 s10), u13, none, none, none, none, none, none]) ?_ _ _ _ _ ⟨_, _, rfl⟩ hs16) (fun e he => ?_)
    · intro x11 s10 sN env hR h
      obtain ⟨u12, u13, rfl⟩ := hR
      refine ⟨_, rfl, ?_⟩
      unfold B_law_pool_2
      refine w_one ?_
      refine bnd h fun x14 hx14 h => ?_
      refine bnd h fun x15 hx15 h => ?_
      refine w_seq (e1 := [some (.p (eLs D.int p_law_script)), some (.p (D.int p_law_k)), some (.p (eS p_law_name)), some (.p (eLs eS p_law_claims)), some (.p (eLs eS p_law_pots)), some (.p (eLs eS p_law_others)), some (oL eTSII s8), some (.p (D.int x11.1)), u4, some (.p (eLs eS (cutA [(cod "bb"), (cod "ck"), (cod "dd")] none (some ((1 : Int) + x9))))), some (oL eR2 x15), some (.p (eS x11.2)), none, none, none, none, none, none]) (w_appL2 (dd := eR2) rfl (e_fz (d := eR2 x14) (e_call (a_c (e_v rfl) (a_c (e_op (e_op (e_v rfl) (e_op e_c (e_v rfl) (g_mulL rfl)) rfl) e_c rfl) (a_c (e_v rfl) (a_c (e_v rfl) (a_c (e_v rfl) (a_c (e_v rfl) a_n)))))) rfl (l_law_order hx14)) (u_t (u_c (u_p _) (u_c (oL_toD _) (u_c (oL_toD _) u_n))))) rfl hx15 rfl) ?_
      have h := Option.some.inj h
      subst h
      exact w_nx ⟨Or.inl rfl, ⟨_, _, rfl⟩⟩
    · obtain ⟨u12, u13, rfl⟩ := he
      refine w_seq (e1 := [some (.p (eLs D.int p_law_script)), some (.p (D.int p_law_k)), some (.p (eS p_law_name)), some (.p (eLs eS p_law_claims)), some (.p (eLs eS p_law_pots)), some (.p (eLs eS p_law_others)), some (oL eTSII s8), u12, u4, some (.p (eLs eS (cutA [(cod "bb"), (cod "ck"), (cod "dd")] none (some ((1 : Int) + x9))))), some (oL eR2 s16), u13, some (oL eTSIS ([] : List TSIS)), none, none, none, none, none]) (w_set2 (e_l a_n rfl rfl) rfl rfl) ?_
      refine bnd h fun x17 hx17 h => ?_
      refine bnd h fun x18 hx18 h => ?_
      refine bnd h fun s30 hs30 h => ?_
      refine w_for (P := (fun e => ∃ u21, ∃ u22, ∃ u23, e = [some (.p (eLs D.int p_law_script)), some (.p (D.int p_law_k)), some (.p (eS p_law_name)), some (.p (eLs eS p_law_claims)), some (.p (eLs eS p_law_pots)), some (.p (eLs eS p_law_others)), some (oL eTSII s8), u21, u22, some (.p (eLs eS (cutA [(cod "bb"), (cod "ck"), (cod "dd")] none (some ((1 : Int) + x9))))), some (oL eR2 s16), u13, some (oL eTSIS s30), u23, none, none, none, none])) (i_r1 (a_c (e_call (a_c (e_v rfl) (a_c (e_op (e_v rfl) e_c rfl) (a_c e_c a_n))) rfl (l_law_draw hx17)) a_n) hx18) (loop_fold (dd := D.int) (fun (s19 : (List TSIS)) e => ∃ u21, ∃ u22, ∃ u23, e = [some (.p (eLs D.int p_law_script)), some (.p (D.int p_law_k)), some (.p (eS p_law_name)), some (.p (eLs eS p_law_claims)), some (.p (eLs eS p_law_pots)), some (.p (eLs eS p_law_others)), some (oL eTSII s8), u21, u22, some (.p (eLs eS (cutA [(cod "bb"), (cod "ck"), (cod "dd")] none (some ((1 : Int) + x9))))), some (oL eR2 s16), u13, some (oL eTSIS s19), u23, none, none, none, none]) ?_ _ _ _ _ ⟨_, _, _, rfl⟩ hs30) (fun e he => ?_)
      · intro x20 s19 sN env hR h
        obtain ⟨u21, u22, u23, rfl⟩ := hR
        refine ⟨_, rfl, ?_⟩
        unfold B_law_pool_3
        refine bnd h fun x24 hx24 h => ?_
        refine bnd h fun x25 hx25 h => ?_
        refine w_seq (e1 := [some (.p (eLs D.int p_law_script)), some (.p (D.int p_law_k)), some (.p (eS p_law_name)), some (.p (eLs eS p_law_claims)), some (.p (eLs eS p_law_pots)), some (.p (eLs eS p_law_others)), some (oL eTSII s8), some (.p (D.int x20)), some (.p (eS x25)), some (.p (eLs eS (cutA [(cod "bb"), (cod "ck"), (cod "dd")] none (some ((1 : Int) + x9))))), some (oL eR2 s16), u13, some (oL eTSIS s19), u23, none, none, none, none]) (w_set2 (e_w (e_ix (e_b rfl) (e_call (a_c (e_v rfl) (a_c (e_op (e_op (e_v rfl) e_c rfl) (e_v rfl) rfl) (a_c (e_b1 (e_b rfl) (g_lenL _ _)) a_n))) rfl (l_law_draw hx24)) (x_l hx25))) rfl rfl) ?_
        refine bnd h fun x26 hx26 h => ?_
        refine bnd h fun x27 hx27 h => ?_
        refine w_seq (e1 := [some (.p (eLs D.int p_law_script)), some (.p (D.int p_law_k)), some (.p (eS p_law_name)), some (.p (eLs eS p_law_claims)), some (.p (eLs eS p_law_pots)), some (.p (eLs eS p_law_others)), some (oL eTSII s8), some (.p (D.int x20)), some (.p (eS x25)), some (.p (eLs eS (cutA [(cod "bb"), (cod "ck"), (cod "dd")] none (some ((1 : Int) + x9))))), some (oL eR2 s16), u13, some (oL eTSIS s19), some (.p (eS x27)), none, none, none, none]) (w_set2 (e_w (e_ix (e_b rfl) (e_call (a_c (e_v rfl) (a_c (e_op (e_op (e_v rfl) e_c rfl) (e_v rfl) rfl) (a_c (e_b1 (e_b rfl) (g_lenL _ _)) a_n))) rfl (l_law_draw hx26)) (x_l hx27))) rfl rfl) ?_
        refine w_one ?_
        refine bnd h fun x28 hx28 h => ?_
        refine bnd h fun x29 hx29 h => ?_
        refine w_seq (e1 := [some (.p (eLs D.int p_law_script)), some (.p (D.int p_law_k)), some (.p (eS p_law_name)), some (.p (eLs eS p_law_claims)), some (.p (eLs eS p_law_pots)), some (.p (eLs eS p_law_others)), some (oL eTSII s8), some (.p (D.int x20)), some (.p (eS x25)), some (.p (eLs eS (cutA [(cod "bb"), (cod "ck"), (cod "dd")] none (some ((1 : Int) + x9))))), some (oL eR2 s16), u13, some (oL eTSIS x29), some (.p (eS x27)), none, none, none, none]) (w_appL2 (dd := eTSIS) rfl (e_fz (d := eTSIS (x25, ((1 : Int) + x28), x27)) (e_t (a_c (e_v rfl) (a_c (e_op e_c (e_call (a_c (e_v rfl) (a_c (e_op (e_op (e_v rfl) e_c rfl) (e_v rfl) rfl) (a_c e_c a_n))) rfl (l_law_draw hx28)) rfl) (a_c (e_v rfl) a_n))) rfl (show _ = ((.p (eTSIS (x25, ((1 : Int) + x28), x27))) : T) from rfl)) (u_p _)) rfl hx29 rfl) ?_
        have h := Option.some.inj h
        subst h
        exact w_nx ⟨Or.inl rfl, ⟨_, _, _, rfl⟩⟩
      · obtain ⟨u21, u22, u23, rfl⟩ := he
        refine bnd h fun x31 hx31 h => ?_
        refine w_seq (e1 := [some (.p (eLs D.int p_law_script)), some (.p (D.int p_law_k)), some (.p (eS p_law_name)), some (.p (eLs eS p_law_claims)), some (.p (eLs eS p_law_pots)), some (.p (eLs eS p_law_others)), some (oL eTSII s8), u21, u22, some (.p (eLs eS (cutA [(cod "bb"), (cod "ck"), (cod "dd")] none (some ((1 : Int) + x9))))), some (oL eR2 s16), u13, some (oL eTSIS s30), u23, some (.p (eLs eS x31)), none, none, none]) (w_set2 (e_fz (d := (eLs eS) x31) (e_callB (a_c (e_b rfl) (a_c (e_b rfl) a_n)) (u_c (oL_toD _) (u_c (u_p _) u_n)) (l_law_free hx31) (cl_l (fun _ => rfl) _)) (oL_toD _)) rfl rfl) ?_
        refine w_seq (e1 := [some (.p (eLs D.int p_law_script)), some (.p (D.int p_law_k)), some (.p (eS p_law_name)), some (.p (eLs eS p_law_claims)), some (.p (eLs eS p_law_pots)), some (.p (eLs eS p_law_others)), some (oL eTSII s8), u21, u22, some (.p (eLs eS (cutA [(cod "bb"), (cod "ck"), (cod "dd")] none (some ((1 : Int) + x9))))), some (oL eR2 s16), u13, some (oL eTSIS s30), u23, some (.p (eLs eS x31)), some (oL eTSS ([] : List TSS)), none, none]) (w_set2 (e_l a_n rfl rfl) rfl rfl) ?_
        refine bnd h fun x32 hx32 h => ?_
        refine bnd h fun s40 hs40 h => ?_
        refine w_for (P := (fun e => ∃ u35, ∃ u36, e = [some (.p (eLs D.int p_law_script)), some (.p (D.int p_law_k)), some (.p (eS p_law_name)), some (.p (eLs eS p_law_claims)), some (.p (eLs eS p_law_pots)), some (.p (eLs eS p_law_others)), some (oL eTSII s8), u35, u36, some (.p (eLs eS (cutA [(cod "bb"), (cod "ck"), (cod "dd")] none (some ((1 : Int) + x9))))), some (oL eR2 s16), u13, some (oL eTSIS s30), u23, some (.p (eLs eS x31)), some (oL eTSS s40), none, none])) (i_en (a_c (e_fz (d := (eLs eS) (cutA x31 none (some x32))) (e_sl (e_b rfl) o_n (o_s (e_call (a_c (e_v rfl) (a_c (e_op (e_v rfl) e_c rfl) (a_c e_c a_n))) rfl (l_law_draw hx32))) s_l) (oL_toD _)) a_n)) (loop_fold (dd := eTIS) (fun (s33 : (List TSS)) e => ∃ u35, ∃ u36, e = [some (.p (eLs D.int p_law_script)), some (.p (D.int p_law_k)), some (.p (eS p_law_name)), some (.p (eLs eS p_law_claims)), some (.p (eLs eS p_law_pots)), some (.p (eLs eS p_law_others)), some (oL eTSII s8), u35, u36, some (.p (eLs eS (cutA [(cod "bb"), (cod "ck"), (cod "dd")] none (some ((1 : Int) + x9))))), some (oL eR2 s16), u13, some (oL eTSIS s30), u23, some (.p (eLs eS x31)), some (oL eTSS s33), none, none]) ?_ _ _ _ _ ⟨_, _, rfl⟩ hs40) (fun e he => ?_)
        · intro x34 s33 sN env hR h
          obtain ⟨u35, u36, rfl⟩ := hR
          refine ⟨_, rfl, ?_⟩
          unfold B_law_pool_4
          refine w_one ?_
          refine w_if (c_t (e_cmp (e_b1 (e_b rfl) (g_lenL _ _)) e_c (u_p _) (u_p _) rfl)) h (fun hb h => ?_) (fun hb h => ?_)
          · refine bnd h fun x37 hx37 h => ?_
            refine bnd h fun x38 hx38 h => ?_
            refine bnd h fun x39 hx39 h => ?_
            refine w_seq (e1 := [some (.p (eLs D.int p_law_script)), some (.p (D.int p_law_k)), some (.p (eS p_law_name)), some (.p (eLs eS p_law_claims)), some (.p (eLs eS p_law_pots)), some (.p (eLs eS p_law_others)), some (oL eTSII s8), some (.p (D.int x34.1)), some (.p (eS x34.2)), some (.p (eLs eS (cutA [(cod "bb"), (cod "ck"), (cod "dd")] none (some ((1 : Int) + x9))))), some (oL eR2 s16), u13, some (oL eTSIS s30), u23, some (.p (eLs eS x31)), some (oL eTSS x39), none, none]) (w_appL2 (dd := eTSS) rfl (e_fz (d := eTSS (x38, x34.2)) (e_t (a_c (e_w (e_ix (e_b rfl) (e_call (a_c (e_v rfl) (a_c (e_op (e_op (e_v rfl) e_c rfl) (e_v rfl) rfl) (a_c (e_b1 (e_b rfl) (g_lenL _ _)) a_n))) rfl (l_law_draw hx37)) (x_l hx38))) (a_c (e_v rfl) a_n)) rfl (show _ = ((.p (eTSS (x38, x34.2))) : T) from rfl)) (u_p _)) rfl hx39 rfl) ?_
            have h := Option.some.inj h
            subst h
            exact w_nx ⟨Or.inl rfl, ⟨_, _, rfl⟩⟩
          · refine w_snx ?_
            have h := Option.some.inj h
            subst h
            exact w_nx ⟨Or.inl rfl, ⟨_, _, rfl⟩⟩
        · obtain ⟨u35, u36, rfl⟩ := he
          refine bnd h fun c43 hc43 h => ?_
          refine w_seq (e1 := [some (.p (eLs D.int p_law_script)), some (.p (D.int p_law_k)), some (.p (eS p_law_name)), some (.p (eLs eS p_law_claims)), some (.p (eLs eS p_law_pots)), some (.p (eLs eS p_law_others)), some (oL eTSII s8), none, u36, some (.p (eLs eS (cutA [(cod "bb"), (cod "ck"), (cod "dd")] none (some ((1 : Int) + x9))))), some (oL eR2 s16), u13, some (oL eTSIS s30), u23, some (.p (eLs eS x31)), some (oL eTSS s40), some (oL eTSI c43), none]) (w_set2 (e_compP (w := [some (.p (eLs D.int p_law_script)), some (.p (D.int p_law_k)), some (.p (eS p_law_name)), some (.p (eLs eS p_law_claims)), some (.p (eLs eS p_law_pots)), some (.p (eLs eS p_law_others)), some (oL eTSII s8), none, u36, some (.p (eLs eS (cutA [(cod "bb"), (cod "ck"), (cod "dd")] none (some ((1 : Int) + x9))))), some (oL eR2 s16), u13, some (oL eTSIS s30), u23, some (.p (eLs eS x31)), some (oL eTSS s40), none, none]) (dd := eTIS) (E := eTSI) (i_en (a_c (e_v rfl) a_n)) rfl ((compO_F _ _).symm.trans hc43) (fun x41 => ⟨_, rfl, _, rfl, (fun hp => nomatch hp), fun y hp h => by
    refine bnd h fun x42 hx42 h => ?_
    have h := Option.some.inj h; subst h
    exact ⟨_, (e_t (a_c (e_v rfl) (a_c (e_call (a_c (e_v rfl) (a_c (e_op (e_op (e_v rfl) e_c rfl) (e_v rfl) rfl) a_n)) rfl (l_law_coins hx42)) a_n)) rfl (show _ = ((.p (eTSI (x41.2, x42))) : T) from rfl)), rfl⟩⟩)) rfl rfl) ?_
          refine w_one ?_
          refine bnd h fun x44 hx44 h => ?_
          have h := Option.some.inj h
          subst h
          exact w_sret (e_t (a_c (e_m rfl) (a_c (e_m rfl) (a_c (e_m rfl) (a_c (e_call (a_c (e_v rfl) (a_c (e_op (e_v rfl) e_c rfl) (a_c (e_v rfl) a_n))) rfl (l_law_some hx44)) (a_c (e_m rfl) (a_c (e_m rfl) (a_c (e_m rfl) a_n))))))) rfl (show _ = ((.tup [(.p (eS ((p_law_name, s8, c43, x44, s16, s30, s40).1))), (oL eTSII ((p_law_name, s8, c43, x44, s16, s30, s40).2.1)), (oL eTSI ((p_law_name, s8, c43, x44, s16, s30, s40).2.2.1)), (oL eS ((p_law_name, s8, c43, x44, s16, s30, s40).2.2.2.1)), (oL eR2 ((p_law_name, s8, c43, x44, s16, s30, s40).2.2.2.2.1)), (oL eTSIS ((p_law_name, s8, c43, x44, s16, s30, s40).2.2.2.2.2.1)), (oL eTSS ((p_law_name, s8, c43, x44, s16, s30, s40).2.2.2.2.2.2))]) : T) from rfl)) (Or.inl rfl)
def n_law_deal (p_law_script : List Int) (p_law_most : Int) : Option (List R3) :=
  (n_law_names p_law_script).bind fun x1 =>
  (n_law_draw p_law_script (904 : Int) p_law_most).bind fun x2 =>
  (rng1  ((1 : Int) + x2)).bind fun x3 =>
  (fold (fun (x5 : Int) (s4 : (List R3)) =>
  (n_law_draw p_law_script ((905 : Int) + x5) (3 : Int)).bind fun x12 =>
  (atI (cutA x1 (some ((3 : Int) + ((4 : Int) * x5))) (some ((7 : Int) + ((4 : Int) * x5)))) (3 : Int)).bind fun x13 =>
  (atI (cutA x1 (some ((3 : Int) + ((4 : Int) * x5))) (some ((7 : Int) + ((4 : Int) * x5)))) (3 : Int)).bind fun x14 =>
  (catS x14 (cod "h")).bind fun x15 =>
  (n_law_draw p_law_script ((910 : Int) + x5) (3 : Int)).bind fun x16 =>
  (compG (fun (x17 : Nm) =>
  (atI x1 x5).bind fun x18 =>
  (if (!decide (x17 = x18)) = true then (some (some x17)) else some none)) (cutA x1 none (some ((1 : Int) + x2)))).bind fun c19 =>
  (atI x1 x5).bind fun x20 =>
  (n_law_pool p_law_script ((200 : Int) * x5) x20 (cutA (cutA x1 (some ((3 : Int) + ((4 : Int) * x5))) (some ((7 : Int) + ((4 : Int) * x5)))) none (some ((1 : Int) + x12))) (cutA [x13, x15] none (some x16)) c19).bind fun x21 =>
  (push s4 x21).bind fun x22 =>
  some x22) x3 ([] : List R3)).bind fun s23 =>
  some s23
theorem l_law_deal {p_law_script : List Int} {p_law_most : Int} {r : List R3} (h : n_law_deal p_law_script p_law_most = some r) : phi_law_deal [(eLs D.int) p_law_script, D.int p_law_most] = some (oL eR3 r) := by
  unfold n_law_deal at h
  refine runF_wp rfl ?_
  show Wp (F_law_deal [some (.p (eLs D.int p_law_script)), some (.p (D.int p_law_most)), none, none, none, none, none, none, none, none, none]) _
  unfold F_law_deal
  refine bnd h fun x1 hx1 h => ?_
  refine w_seq (e1 := [some (.p (eLs D.int p_law_script)), some (.p (D.int p_law_most)), some (.p (eLs eS x1)), none, none, none, none, none, none, none, none]) (w_set2 (e_fz (d := (eLs eS) x1) (e_call (a_c (e_v rfl) a_n) rfl (l_law_names hx1)) (oL_toD _)) rfl rfl) ?_
  refine bnd h fun x2 hx2 h => ?_
  refine w_seq (e1 := [some (.p (eLs D.int p_law_script)), some (.p (D.int p_law_most)), some (.p (eLs eS x1)), some (.p (D.int ((1 : Int) + x2))), none, none, none, none, none, none, none]) (w_set2 (e_op e_c (e_call (a_c (e_v rfl) (a_c e_c (a_c (e_v rfl) a_n))) rfl (l_law_draw hx2)) rfl) rfl rfl) ?_
  refine w_seq (e1 := [some (.p (eLs D.int p_law_script)), some (.p (D.int p_law_most)), some (.p (eLs eS x1)), some (.p (D.int ((1 : Int) + x2))), some (oL eR3 ([] : List R3)), none, none, none, none, none, none]) (w_set2 (e_l a_n rfl rfl) rfl rfl) ?_
  refine bnd h fun x3 hx3 h => ?_
  refine bnd h fun s23 hs23 h => ?_
  refine w_for (P := (fun e => ∃ u6, ∃ u7, ∃ u8, ∃ u9, ∃ u10, ∃ u11, e = [some (.p (eLs D.int p_law_script)), some (.p (D.int p_law_most)), some (.p (eLs eS x1)), some (.p (D.int ((1 : Int) + x2))), some (oL eR3 s23), u6, u7, u8, u9, u10, u11])) (i_r1 (a_c (e_v rfl) a_n) hx3) (loop_fold (dd := D.int) (fun (s4 : (List R3)) e => ∃ u6, ∃ u7, ∃ u8, ∃ u9, ∃ u10, ∃ u11, e = [some (.p (eLs D.int p_law_script)), some (.p (D.int p_law_most)), some (.p (eLs eS x1)), some (.p (D.int ((1 : Int) + x2))), some (oL eR3 s4), u6, u7, u8, u9, u10, u11]) ?_ _ _ _ _ ⟨_, _, _, _, _, _, rfl⟩ hs23) (fun e he => ?_)
  · intro x5 s4 sN env hR h
    obtain ⟨u6, u7, u8, u9, u10, u11, rfl⟩ := hR
    refine ⟨_, rfl, ?_⟩
    unfold B_law_deal_1
    refine w_seq (e1 := [some (.p (eLs D.int p_law_script)), some (.p (D.int p_law_most)), some (.p (eLs eS x1)), some (.p (D.int ((1 : Int) + x2))), some (oL eR3 s4), some (.p (D.int x5)), some (oL eS (cutA x1 (some ((3 : Int) + ((4 : Int) * x5))) (some ((7 : Int) + ((4 : Int) * x5))))), u8, u9, u10, u11]) (w_set2 (e_sl (e_b rfl) (o_s (e_op e_c (e_op e_c (e_v rfl) (g_mulL rfl)) rfl)) (o_s (e_op e_c (e_op e_c (e_v rfl) (g_mulL rfl)) rfl)) s_l) rfl rfl) ?_
    refine bnd h fun x12 hx12 h => ?_
    refine w_seq (e1 := [some (.p (eLs D.int p_law_script)), some (.p (D.int p_law_most)), some (.p (eLs eS x1)), some (.p (D.int ((1 : Int) + x2))), some (oL eR3 s4), some (.p (D.int x5)), some (oL eS (cutA x1 (some ((3 : Int) + ((4 : Int) * x5))) (some ((7 : Int) + ((4 : Int) * x5))))), some (oL eS (cutA (cutA x1 (some ((3 : Int) + ((4 : Int) * x5))) (some ((7 : Int) + ((4 : Int) * x5)))) none (some ((1 : Int) + x12)))), u9, u10, u11]) (w_set2 (e_sl (e_b rfl) o_n (o_s (e_op e_c (e_call (a_c (e_v rfl) (a_c (e_op e_c (e_v rfl) rfl) (a_c e_c a_n))) rfl (l_law_draw hx12)) rfl)) s_o) rfl rfl) ?_
    refine bnd h fun x13 hx13 h => ?_
    refine bnd h fun x14 hx14 h => ?_
    refine bnd h fun x15 hx15 h => ?_
    refine bnd h fun x16 hx16 h => ?_
    refine w_seq (e1 := [some (.p (eLs D.int p_law_script)), some (.p (D.int p_law_most)), some (.p (eLs eS x1)), some (.p (D.int ((1 : Int) + x2))), some (oL eR3 s4), some (.p (D.int x5)), some (oL eS (cutA x1 (some ((3 : Int) + ((4 : Int) * x5))) (some ((7 : Int) + ((4 : Int) * x5))))), some (oL eS (cutA (cutA x1 (some ((3 : Int) + ((4 : Int) * x5))) (some ((7 : Int) + ((4 : Int) * x5)))) none (some ((1 : Int) + x12)))), some (oL eS (cutA [x13, x15] none (some x16))), u10, u11]) (w_set2 (e_sl (e_l (a_c (e_w (e_ix (e_b rfl) e_c (x_o hx13))) (a_c (e_op (e_w (e_ix (e_b rfl) e_c (x_o hx14))) (e_s "h") (g_cat hx15)) a_n)) rfl (show _ = ((oL eS [x13, x15]) : T) from rfl)) o_n (o_s (e_call (a_c (e_v rfl) (a_c (e_op e_c (e_v rfl) rfl) (a_c e_c a_n))) rfl (l_law_draw hx16))) s_o) rfl rfl) ?_
    refine bnd h fun c19 hc19 h => ?_
    refine w_seq (e1 := [some (.p (eLs D.int p_law_script)), some (.p (D.int p_law_most)), some (.p (eLs eS x1)), some (.p (D.int ((1 : Int) + x2))), some (oL eR3 s4), some (.p (D.int x5)), some (oL eS (cutA x1 (some ((3 : Int) + ((4 : Int) * x5))) (some ((7 : Int) + ((4 : Int) * x5))))), some (oL eS (cutA (cutA x1 (some ((3 : Int) + ((4 : Int) * x5))) (some ((7 : Int) + ((4 : Int) * x5)))) none (some ((1 : Int) + x12)))), some (oL eS (cutA [x13, x15] none (some x16))), some (oL eS c19), none]) (w_set2 (e_compGP (w := [some (.p (eLs D.int p_law_script)), some (.p (D.int p_law_most)), some (.p (eLs eS x1)), some (.p (D.int ((1 : Int) + x2))), some (oL eR3 s4), some (.p (D.int x5)), some (oL eS (cutA x1 (some ((3 : Int) + ((4 : Int) * x5))) (some ((7 : Int) + ((4 : Int) * x5))))), some (oL eS (cutA (cutA x1 (some ((3 : Int) + ((4 : Int) * x5))) (some ((7 : Int) + ((4 : Int) * x5)))) none (some ((1 : Int) + x12)))), some (oL eS (cutA [x13, x15] none (some x16))), u10, none]) (dd := eS) (E := eS) (i_l (e_fz (d := (eLs eS) (cutA x1 none (some ((1 : Int) + x2)))) (e_sl (e_b rfl) o_n (o_s (e_v rfl)) s_l) (oL_toD _))) rfl hc19 (fun x17 o h => by
    refine bnd h fun x18 hx18 h => ?_
    refine ⟨_, rfl, _, _, (c_t (e_cmp (e_b rfl) (e_ix (e_b rfl) (e_v rfl) (x_l hx18)) (u_p _) (u_p _) (g_ne eqQ_g))), ?_⟩
    refine ifs h (fun hb h => Or.inr ?_) (fun hb h => Or.inl ?_)
    · refine ⟨hb, ?_⟩
      have h := Option.some.inj h; subst h
      exact ⟨_, rfl, _, (e_v rfl), rfl⟩
    · exact ⟨hb, (Option.some.inj h).symm, rfl⟩)) rfl rfl) ?_
    refine w_one ?_
    refine bnd h fun x20 hx20 h => ?_
    refine bnd h fun x21 hx21 h => ?_
    refine bnd h fun x22 hx22 h => ?_
    refine w_seq (e1 := [some (.p (eLs D.int p_law_script)), some (.p (D.int p_law_most)), some (.p (eLs eS x1)), some (.p (D.int ((1 : Int) + x2))), some (oL eR3 x22), some (.p (D.int x5)), some (oL eS (cutA x1 (some ((3 : Int) + ((4 : Int) * x5))) (some ((7 : Int) + ((4 : Int) * x5))))), some (.p (eLs eS (cutA (cutA x1 (some ((3 : Int) + ((4 : Int) * x5))) (some ((7 : Int) + ((4 : Int) * x5)))) none (some ((1 : Int) + x12))))), some (.p (eLs eS (cutA [x13, x15] none (some x16)))), some (.p (eLs eS c19)), none]) (w_appL2 (dd := eR3) rfl (e_fz (d := eR3 x21) (e_call (a_c (e_v rfl) (a_c (e_op e_c (e_v rfl) (g_mulL rfl)) (a_c (e_w (e_ix (e_b rfl) (e_v rfl) (x_l hx20))) (a_c (e_vl (d := (eLs eS) (cutA (cutA x1 (some ((3 : Int) + ((4 : Int) * x5))) (some ((7 : Int) + ((4 : Int) * x5)))) none (some ((1 : Int) + x12)))) rfl (oL_toD _)) (a_c (e_vl (d := (eLs eS) (cutA [x13, x15] none (some x16))) rfl (oL_toD _)) (a_c (e_vl (d := (eLs eS) c19) rfl (oL_toD _)) a_n)))))) rfl (l_law_pool hx21)) (u_t (u_c (u_p _) (u_c (oL_toD _) (u_c (oL_toD _) (u_c (oL_toD _) (u_c (oL_toD _) (u_c (oL_toD _) (u_c (oL_toD _) u_n))))))))) rfl hx22 rfl) ?_
    have h := Option.some.inj h
    subst h
    exact w_nx ⟨Or.inl rfl, ⟨_, _, _, _, _, _, rfl⟩⟩
  · obtain ⟨u6, u7, u8, u9, u10, u11, rfl⟩ := he
    refine w_one ?_
    have h := Option.some.inj h
    subst h
    exact w_sret (e_m rfl) (Or.inl rfl)
def n_law_book (p_law_script : List Int) (p_law_pool_here : R3) : Option R4 :=
  (fold (fun (x3 : R5) (s2 : (List TSI) × (List TSI)) =>
  (n_law_draw p_law_script ((700 : Int) + x3.1) (30 : Int)).bind fun x7 =>
  (n_law_draw p_law_script ((710 : Int) + x3.1) (3 : Int)).bind fun x8 =>
  (atI [(0 : Int), x3.2.2.1, x7] x8).bind fun x9 =>
  (push s2.1 (x3.2.1, x9)).bind fun x10 =>
  (n_law_draw p_law_script ((720 : Int) + x3.1) (4 : Int)).bind fun x11 =>
  (mulN x3.2.2.2 x11).bind fun x12 =>
  (mulN x12 (minI (1 : Int) x9)).bind fun x13 =>
  (push s2.2 (x3.2.1, x13)).bind fun x14 =>
  some (x10, x14)) (enumN 0 p_law_pool_here.2.1) (([] : List TSI), ([] : List TSI))).bind fun s15 =>
  (fold (fun (x17 : R5) (s16 : (List TSI)) =>
  (n_law_draw p_law_script ((730 : Int) + x17.1) (5 : Int)).bind fun x20 =>
  (push s16 (x17.2.1, x20)).bind fun x21 =>
  some x21) (enumN 0 p_law_pool_here.2.1) ([] : List TSI)).bind fun s22 =>
  (compO (fun (x23 : TSI) => (n_law_draw p_law_script (740 : Int) (1000 : Int)).bind fun x24 =>
  (modN x24 (x23.2 + (1 : Int))).bind fun x25 =>
  some (x23.1, x25)) p_law_pool_here.2.2.1).bind fun c26 =>
  (n_law_draw p_law_script (741 : Int) (100 : Int)).bind fun x27 =>
  some (s15.1, s15.2, s22, c26, x27)
theorem l_law_book {p_law_script : List Int} {p_law_pool_here : R3} {r : R4} (h : n_law_book p_law_script p_law_pool_here = some r) : phi_law_book [(eLs D.int) p_law_script, eR3 p_law_pool_here] = some (.tup [(oL eTSI r.1), (oL eTSI r.2.1), (oL eTSI r.2.2.1), (oL eTSI r.2.2.2.1), (.p (D.int r.2.2.2.2))]) := by
  unfold n_law_book at h
  refine runF_wp rfl ?_
  show Wp (F_law_book [some (.p (eLs D.int p_law_script)), some (.p (eR3 p_law_pool_here)), none, none, none, none, none, none, none, none, none]) _
  unfold F_law_book
  refine w_seq (e1 := [some (.p (eLs D.int p_law_script)), some (.p (eR3 p_law_pool_here)), some (oL eTSI ([] : List TSI)), none, none, none, none, none, none, none, none]) (w_set2 (e_l a_n rfl rfl) rfl rfl) ?_
  refine w_seq (e1 := [some (.p (eLs D.int p_law_script)), some (.p (eR3 p_law_pool_here)), some (oL eTSI ([] : List TSI)), some (oL eTSI ([] : List TSI)), none, none, none, none, none, none, none]) (w_set2 (e_l a_n rfl rfl) rfl rfl) ?_
  refine bnd h fun s15 hs15 h => ?_
  refine w_for (P := (fun e => ∃ u4, ∃ u5, ∃ u6, e = [some (.p (eLs D.int p_law_script)), some (.p (eR3 p_law_pool_here)), some (oL eTSI s15.1), some (oL eTSI s15.2), u4, u5, u6, none, none, none, none])) (i_en (a_c (e_w (e_ix (e_b rfl) e_c (x_t 1 rfl))) a_n)) (loop_fold (dd := eR5) (fun (s2 : (List TSI) × (List TSI)) e => ∃ u4, ∃ u5, ∃ u6, e = [some (.p (eLs D.int p_law_script)), some (.p (eR3 p_law_pool_here)), some (oL eTSI s2.1), some (oL eTSI s2.2), u4, u5, u6, none, none, none, none]) ?_ _ _ _ _ ⟨_, _, _, rfl⟩ hs15) (fun e he => ?_)
  · intro x3 s2 sN env hR h
    obtain ⟨u4, u5, u6, rfl⟩ := hR
    refine ⟨_, rfl, ?_⟩
    unfold B_law_book_1
    refine bnd h fun x7 hx7 h => ?_
    refine bnd h fun x8 hx8 h => ?_
    refine bnd h fun x9 hx9 h => ?_
    refine w_seq (e1 := [some (.p (eLs D.int p_law_script)), some (.p (eR3 p_law_pool_here)), some (oL eTSI s2.1), some (oL eTSI s2.2), some (.p (D.int x3.1)), some (.p (eTSII x3.2)), some (.p (D.int x9)), none, none, none, none]) (w_set2 (e_w (e_ix (e_l (a_c e_c (a_c (e_w (e_ix (e_b rfl) e_c (x_t 1 rfl))) (a_c (e_call (a_c (e_v rfl) (a_c (e_op e_c (e_v rfl) rfl) (a_c e_c a_n))) rfl (l_law_draw hx7)) a_n))) rfl (show _ = ((oL D.int [(0 : Int), x3.2.2.1, x7]) : T) from rfl)) (e_call (a_c (e_v rfl) (a_c (e_op e_c (e_v rfl) rfl) (a_c e_c a_n))) rfl (l_law_draw hx8)) (x_o hx9))) rfl rfl) ?_
    refine bnd h fun x10 hx10 h => ?_
    refine w_seq (e1 := [some (.p (eLs D.int p_law_script)), some (.p (eR3 p_law_pool_here)), some (oL eTSI x10), some (oL eTSI s2.2), some (.p (D.int x3.1)), some (.p (eTSII x3.2)), some (.p (D.int x9)), none, none, none, none]) (w_appL2 (dd := eTSI) rfl (e_fz (d := eTSI (x3.2.1, x9)) (e_t (a_c (e_w (e_ix (e_b rfl) e_c (x_t 0 rfl))) (a_c (e_v rfl) a_n)) rfl (show _ = ((.p (eTSI (x3.2.1, x9))) : T) from rfl)) (u_p _)) rfl hx10 rfl) ?_
    refine w_one ?_
    refine bnd h fun x11 hx11 h => ?_
    refine bnd h fun x12 hx12 h => ?_
    refine bnd h fun x13 hx13 h => ?_
    refine bnd h fun x14 hx14 h => ?_
    refine w_seq (e1 := [some (.p (eLs D.int p_law_script)), some (.p (eR3 p_law_pool_here)), some (oL eTSI x10), some (oL eTSI x14), some (.p (D.int x3.1)), some (.p (eTSII x3.2)), some (.p (D.int x9)), none, none, none, none]) (w_appL2 (dd := eTSI) rfl (e_fz (d := eTSI (x3.2.1, x13)) (e_t (a_c (e_w (e_ix (e_b rfl) e_c (x_t 0 rfl))) (a_c (e_op (e_op (e_w (e_ix (e_b rfl) e_c (x_t 2 rfl))) (e_call (a_c (e_v rfl) (a_c (e_op e_c (e_v rfl) rfl) (a_c e_c a_n))) rfl (l_law_draw hx11)) (g_mul hx12)) (e_i2 (a_c e_c (a_c (e_v rfl) a_n))) (g_mul hx13)) a_n)) rfl (show _ = ((.p (eTSI (x3.2.1, x13))) : T) from rfl)) (u_p _)) rfl hx14 rfl) ?_
    have h := Option.some.inj h
    subst h
    exact w_nx ⟨Or.inl rfl, ⟨_, _, _, rfl⟩⟩
  · obtain ⟨u4, u5, u6, rfl⟩ := he
    refine w_seq (e1 := [some (.p (eLs D.int p_law_script)), some (.p (eR3 p_law_pool_here)), some (oL eTSI s15.1), some (oL eTSI s15.2), u4, u5, u6, some (oL eTSI ([] : List TSI)), none, none, none]) (w_set2 (e_l a_n rfl rfl) rfl rfl) ?_
    refine bnd h fun s22 hs22 h => ?_
    refine w_for (P := (fun e => ∃ u18, ∃ u19, e = [some (.p (eLs D.int p_law_script)), some (.p (eR3 p_law_pool_here)), some (oL eTSI s15.1), some (oL eTSI s15.2), u18, u19, u6, some (oL eTSI s22), none, none, none])) (i_en (a_c (e_w (e_ix (e_b rfl) e_c (x_t 1 rfl))) a_n)) (loop_fold (dd := eR5) (fun (s16 : (List TSI)) e => ∃ u18, ∃ u19, e = [some (.p (eLs D.int p_law_script)), some (.p (eR3 p_law_pool_here)), some (oL eTSI s15.1), some (oL eTSI s15.2), u18, u19, u6, some (oL eTSI s16), none, none, none]) ?_ _ _ _ _ ⟨_, _, rfl⟩ hs22) (fun e he => ?_)
    · intro x17 s16 sN env hR h
      obtain ⟨u18, u19, rfl⟩ := hR
      refine ⟨_, rfl, ?_⟩
      unfold B_law_book_2
      refine w_one ?_
      refine bnd h fun x20 hx20 h => ?_
      refine bnd h fun x21 hx21 h => ?_
      refine w_seq (e1 := [some (.p (eLs D.int p_law_script)), some (.p (eR3 p_law_pool_here)), some (oL eTSI s15.1), some (oL eTSI s15.2), some (.p (D.int x17.1)), some (.p (eTSII x17.2)), u6, some (oL eTSI x21), none, none, none]) (w_appL2 (dd := eTSI) rfl (e_fz (d := eTSI (x17.2.1, x20)) (e_t (a_c (e_w (e_ix (e_b rfl) e_c (x_t 0 rfl))) (a_c (e_call (a_c (e_v rfl) (a_c (e_op e_c (e_v rfl) rfl) (a_c e_c a_n))) rfl (l_law_draw hx20)) a_n)) rfl (show _ = ((.p (eTSI (x17.2.1, x20))) : T) from rfl)) (u_p _)) rfl hx21 rfl) ?_
      have h := Option.some.inj h
      subst h
      exact w_nx ⟨Or.inl rfl, ⟨_, _, rfl⟩⟩
    · obtain ⟨u18, u19, rfl⟩ := he
      refine bnd h fun c26 hc26 h => ?_
      refine w_seq (e1 := [some (.p (eLs D.int p_law_script)), some (.p (eR3 p_law_pool_here)), some (oL eTSI s15.1), some (oL eTSI s15.2), u18, u19, u6, some (oL eTSI s22), some (oL eTSI c26), none, none]) (w_set2 (e_compP (w := [some (.p (eLs D.int p_law_script)), some (.p (eR3 p_law_pool_here)), some (oL eTSI s15.1), some (oL eTSI s15.2), u18, u19, u6, some (oL eTSI s22), none, none, none]) (dd := eTSI) (E := eTSI) (i_l (e_w (e_ix (e_b rfl) e_c (x_t 2 rfl)))) rfl ((compO_F _ _).symm.trans hc26) (fun x23 => ⟨_, rfl, _, rfl, (fun hp => nomatch hp), fun y hp h => by
    refine bnd h fun x24 hx24 h => ?_
    refine bnd h fun x25 hx25 h => ?_
    have h := Option.some.inj h; subst h
    exact ⟨_, (e_t (a_c (e_v rfl) (a_c (e_op (e_call (a_c (e_v rfl) (a_c e_c (a_c e_c a_n))) rfl (l_law_draw hx24)) (e_op (e_v rfl) e_c rfl) (g_mod hx25)) a_n)) rfl (show _ = ((.p (eTSI (x23.1, x25))) : T) from rfl)), rfl⟩⟩)) rfl rfl) ?_
      refine w_one ?_
      refine bnd h fun x27 hx27 h => ?_
      have h := Option.some.inj h
      subst h
      exact w_sret (e_t (a_c (e_m rfl) (a_c (e_m rfl) (a_c (e_m rfl) (a_c (e_m rfl) (a_c (e_call (a_c (e_v rfl) (a_c e_c (a_c e_c a_n))) rfl (l_law_draw hx27)) a_n))))) rfl (show _ = ((.tup [(oL eTSI ((s15.1, s15.2, s22, c26, x27).1)), (oL eTSI ((s15.1, s15.2, s22, c26, x27).2.1)), (oL eTSI ((s15.1, s15.2, s22, c26, x27).2.2.1)), (oL eTSI ((s15.1, s15.2, s22, c26, x27).2.2.2.1)), (.p (D.int ((s15.1, s15.2, s22, c26, x27).2.2.2.2)))]) : T) from rfl)) (Or.inl rfl)
def n_order_now (p_pool : R3) (p_book : R4) : Option Nm :=
  (foldB (ρ := Nm) (fun (x3 : TSIS) (s2 : Unit) =>
  (lkN (mkK p_book.2.2.1) x3.1).bind fun x7 =>
  (if (decide (x3.2.1 ≤ x7)) = true then
  (some (Lp.rt x3.2.2))
  else (some (Lp.nx ())))) p_pool.2.2.2.2.2.1 ()).bind (lpK (fun s8 =>
  (atI p_pool.2.2.2.2.1 (0 : Int)).bind fun x9 =>
  some x9.1) (fun r => some r))
theorem l_order_now {p_pool : R3} {p_book : R4} {r : Nm} (h : n_order_now p_pool p_book = some r) : phi_order_now [eR3 p_pool, eR4 p_book] = some (.p (eS r)) := by
  unfold n_order_now at h
  refine runF_wp rfl ?_
  show Wp (F_order_now [some (.p (eR3 p_pool)), some (.p (eR4 p_book)), none, none, none, none]) _
  unfold F_order_now
  refine w_seq (e1 := [some (.p (eR3 p_pool)), some (.p (eR4 p_book)), some (.p (eKd kS D.int (mkK p_book.2.2.1))), none, none, none]) (w_set2 (e_fz (d := (eKd kS D.int) (mkK p_book.2.2.1)) (e_dictP kS_inj (fun _ => rfl) (e_ix (e_b rfl) e_c (x_t 2 rfl)) (it_p _ _) rfl) (oK_toD _)) rfl rfl) ?_
  refine bnd h fun o10 ho10 h => ?_
  refine w_forB (R := (fun (s2 : Unit) e => ∃ u4, ∃ u5, ∃ u6, e = [some (.p (eR3 p_pool)), some (.p (eR4 p_book)), some (.p (eKd kS D.int (mkK p_book.2.2.1))), u4, u5, u6])) (ET := (pE eS)) (i_l (e_w (e_ix (e_b rfl) e_c (x_t 5 rfl)))) (loop_foldB (dd := eTSIS) (fun (s2 : Unit) e => ∃ u4, ∃ u5, ∃ u6, e = [some (.p (eR3 p_pool)), some (.p (eR4 p_book)), some (.p (eKd kS D.int (mkK p_book.2.2.1))), u4, u5, u6]) (pE eS) ?_ _ _ _ _ ⟨_, _, _, rfl⟩ ho10) h (fun s8 e he h => ?_) (fun v e h => ?_)
  · intro x3 s2 sN env hR h
    obtain ⟨u4, u5, u6, rfl⟩ := hR
    refine ⟨_, rfl, ?_⟩
    unfold B_order_now_1
    refine w_one ?_
    refine bnd h fun x7 hx7 h => ?_
    refine w_if (c_t (e_cmp (e_dix kS_inj (e_b rfl) rfl (e_v rfl) (keyS _) hx7) (e_b rfl) (u_p _) (u_p _) rfl)) h (fun hb h => ?_) (fun hb h => ?_)
    · have h := Option.some.inj h
      subst h
      exact w_sret (e_m rfl) rfl
    · refine w_snx ?_
      have h := Option.some.inj h
      subst h
      exact w_nx ⟨Or.inl rfl, ⟨_, _, _, rfl⟩⟩
  · obtain ⟨u4, u5, u6, rfl⟩ := he
    refine w_one ?_
    refine bnd h fun x9 hx9 h => ?_
    have h := Option.some.inj h
    subst h
    exact w_sret (e_w (e_ix (e_ix (e_ix (e_b rfl) e_c (x_t 4 rfl)) e_c (x_l hx9)) e_c (x_t 0 rfl))) (Or.inl rfl)
  · have h := Option.some.inj h
    subst h
    exact Or.inl rfl
def n_law_due (p_law_pool_here : R3) (p_law_book_here : R4) : Option Nm :=
  (foldB (ρ := Nm) (fun (x3 : TSIS) (s2 : Unit) =>
  (foldB (ρ := Nm) (fun (x10 : TSI) (s9 : Nm) =>
  (if ((decide (x10.1 = x3.1)) && (decide (x3.2.1 ≤ x10.2))) = true then
  (some (Lp.rt s9))
  else (some (Lp.nx s9)))) p_law_book_here.2.2.1 x3.2.2).bind (lpK (fun s13 =>
  some (Lp.nx ())) (fun r => some (Lp.rt r)))) p_law_pool_here.2.2.2.2.2.1 ()).bind (lpK (fun s15 =>
  (atI p_law_pool_here.2.2.2.2.1 (0 : Int)).bind fun x16 =>
  some x16.1) (fun r => some r))
theorem l_law_due {p_law_pool_here : R3} {p_law_book_here : R4} {r : Nm} (h : n_law_due p_law_pool_here p_law_book_here = some r) : phi_law_due [eR3 p_law_pool_here, eR4 p_law_book_here] = some (.p (eS r)) := by
  unfold n_law_due at h
  refine runF_wp rfl ?_
  show Wp (F_law_due [some (.p (eR3 p_law_pool_here)), some (.p (eR4 p_law_book_here)), none, none, none, none, none]) _
  unfold F_law_due
  refine bnd h fun o17 ho17 h => ?_
  refine w_forB (R := (fun (s2 : Unit) e => ∃ u4, ∃ u5, ∃ u6, ∃ u7, ∃ u8, e = [some (.p (eR3 p_law_pool_here)), some (.p (eR4 p_law_book_here)), u4, u5, u6, u7, u8])) (ET := (pE eS)) (i_l (e_w (e_ix (e_b rfl) e_c (x_t 5 rfl)))) (loop_foldB (dd := eTSIS) (fun (s2 : Unit) e => ∃ u4, ∃ u5, ∃ u6, ∃ u7, ∃ u8, e = [some (.p (eR3 p_law_pool_here)), some (.p (eR4 p_law_book_here)), u4, u5, u6, u7, u8]) (pE eS) ?_ _ _ _ _ ⟨_, _, _, _, _, rfl⟩ ho17) h (fun s15 e he h => ?_) (fun v e h => ?_)
  · intro x3 s2 sN env hR h
    obtain ⟨u4, u5, u6, u7, u8, rfl⟩ := hR
    refine ⟨_, rfl, ?_⟩
    unfold B_law_due_2
    refine w_one ?_
    refine bnd h fun o14 ho14 h => ?_
    refine w_forB (R := (fun (s9 : Nm) e => ∃ u11, ∃ u12, e = [some (.p (eR3 p_law_pool_here)), some (.p (eR4 p_law_book_here)), some (.p (eS x3.1)), some (.p (D.int x3.2.1)), some (.p (eS s9)), u11, u12])) (ET := (pE eS)) (i_l (e_w (e_ix (e_b rfl) e_c (x_t 2 rfl)))) (loop_foldB (dd := eTSI) (fun (s9 : Nm) e => ∃ u11, ∃ u12, e = [some (.p (eR3 p_law_pool_here)), some (.p (eR4 p_law_book_here)), some (.p (eS x3.1)), some (.p (D.int x3.2.1)), some (.p (eS s9)), u11, u12]) (pE eS) ?_ _ _ _ _ ⟨_, _, rfl⟩ ho14) h (fun s13 e he h => ?_) (fun v e h => ?_)
    · intro x10 s9 sN env hR h
      obtain ⟨u11, u12, rfl⟩ := hR
      refine ⟨_, rfl, ?_⟩
      unfold B_law_due_1
      refine w_one ?_
      refine w_if (c_and (c_t (e_cmp (e_b rfl) (e_b rfl) (u_p _) (u_p _) eqQ_g)) (c_t (e_cmp (e_b rfl) (e_b rfl) (u_p _) (u_p _) rfl))) h (fun hb h => ?_) (fun hb h => ?_)
      · have h := Option.some.inj h
        subst h
        exact w_sret (e_m rfl) rfl
      · refine w_snx ?_
        have h := Option.some.inj h
        subst h
        exact w_nx ⟨Or.inl rfl, ⟨_, _, rfl⟩⟩
    · obtain ⟨u11, u12, rfl⟩ := he
      have h := Option.some.inj h
      subst h
      exact w_nx ⟨Or.inl rfl, ⟨_, _, _, _, _, rfl⟩⟩
    · have h := Option.some.inj h
      subst h
      exact rfl
  · obtain ⟨u4, u5, u6, u7, u8, rfl⟩ := he
    refine w_one ?_
    refine bnd h fun x16 hx16 h => ?_
    have h := Option.some.inj h
    subst h
    exact w_sret (e_w (e_ix (e_ix (e_ix (e_b rfl) e_c (x_t 4 rfl)) e_c (x_l hx16)) e_c (x_t 0 rfl))) (Or.inl rfl)
  · have h := Option.some.inj h
    subst h
    exact Or.inl rfl
def n_book_begun (p_pool : R3) : Option R4 :=
  (compT (fun (x1 : TSII) => (x1.1, x1.2.1)) p_pool.2.1).bind fun c2 =>
  (compT (fun (x3 : TSII) => (x3.1, (0 : Int))) p_pool.2.1).bind fun c4 =>
  (compT (fun (x5 : TSII) => (x5.1, (0 : Int))) p_pool.2.1).bind fun c6 =>
  (compT (fun (x7 : TSI) => (x7.1, (0 : Int))) p_pool.2.2.1).bind fun c8 =>
  some (c2, c4, c6, c8, (0 : Int))
theorem l_book_begun {p_pool : R3} {r : R4} (h : n_book_begun p_pool = some r) : phi_book_begun [eR3 p_pool] = some (.tup [(oL eTSI r.1), (oL eTSI r.2.1), (oL eTSI r.2.2.1), (oL eTSI r.2.2.2.1), (.p (D.int r.2.2.2.2))]) := by
  unfold n_book_begun at h
  refine runF_wp rfl ?_
  show Wp (F_book_begun [some (.p (eR3 p_pool)), none, none, none, none, none, none, none, none, none]) _
  unfold F_book_begun
  refine bnd h fun c2 hc2 h => ?_
  refine w_seq (e1 := [some (.p (eR3 p_pool)), some (oL eTSI c2), none, none, none, none, none, none, none, none]) (w_set2 (e_compP (w := [some (.p (eR3 p_pool)), none, none, none, none, none, none, none, none, none]) (dd := eTSII) (E := eTSI) (i_l (e_w (e_ix (e_b rfl) e_c (x_t 1 rfl)))) rfl ((compT_F _ _).symm.trans hc2) (fun x1 => ⟨_, rfl, _, rfl, (fun hp => nomatch hp), fun y hp h => by
    have h := Option.some.inj h; subst h
    exact ⟨_, (e_t (a_c (e_v rfl) (a_c (e_v rfl) a_n)) rfl (show _ = ((.p (eTSI (x1.1, x1.2.1))) : T) from rfl)), rfl⟩⟩)) rfl rfl) ?_
  refine bnd h fun c4 hc4 h => ?_
  refine w_seq (e1 := [some (.p (eR3 p_pool)), some (oL eTSI c2), none, none, none, some (oL eTSI c4), none, none, none, none]) (w_set2 (e_compP (w := [some (.p (eR3 p_pool)), some (oL eTSI c2), none, none, none, none, none, none, none, none]) (dd := eTSII) (E := eTSI) (i_l (e_w (e_ix (e_b rfl) e_c (x_t 1 rfl)))) rfl ((compT_F _ _).symm.trans hc4) (fun x3 => ⟨_, rfl, _, rfl, (fun hp => nomatch hp), fun y hp h => by
    have h := Option.some.inj h; subst h
    exact ⟨_, (e_t (a_c (e_v rfl) (a_c e_c a_n)) rfl (show _ = ((.p (eTSI (x3.1, (0 : Int)))) : T) from rfl)), rfl⟩⟩)) rfl rfl) ?_
  refine bnd h fun c6 hc6 h => ?_
  refine w_seq (e1 := [some (.p (eR3 p_pool)), some (oL eTSI c2), none, none, none, some (oL eTSI c4), some (oL eTSI c6), none, none, none]) (w_set2 (e_compP (w := [some (.p (eR3 p_pool)), some (oL eTSI c2), none, none, none, some (oL eTSI c4), none, none, none, none]) (dd := eTSII) (E := eTSI) (i_l (e_w (e_ix (e_b rfl) e_c (x_t 1 rfl)))) rfl ((compT_F _ _).symm.trans hc6) (fun x5 => ⟨_, rfl, _, rfl, (fun hp => nomatch hp), fun y hp h => by
    have h := Option.some.inj h; subst h
    exact ⟨_, (e_t (a_c (e_v rfl) (a_c e_c a_n)) rfl (show _ = ((.p (eTSI (x5.1, (0 : Int)))) : T) from rfl)), rfl⟩⟩)) rfl rfl) ?_
  refine bnd h fun c8 hc8 h => ?_
  refine w_seq (e1 := [some (.p (eR3 p_pool)), some (oL eTSI c2), none, none, none, some (oL eTSI c4), some (oL eTSI c6), some (oL eTSI c8), none, none]) (w_set2 (e_compP (w := [some (.p (eR3 p_pool)), some (oL eTSI c2), none, none, none, some (oL eTSI c4), some (oL eTSI c6), none, none, none]) (dd := eTSI) (E := eTSI) (i_l (e_w (e_ix (e_b rfl) e_c (x_t 2 rfl)))) rfl ((compT_F _ _).symm.trans hc8) (fun x7 => ⟨_, rfl, _, rfl, (fun hp => nomatch hp), fun y hp h => by
    have h := Option.some.inj h; subst h
    exact ⟨_, (e_t (a_c (e_v rfl) (a_c e_c a_n)) rfl (show _ = ((.p (eTSI (x7.1, (0 : Int)))) : T) from rfl)), rfl⟩⟩)) rfl rfl) ?_
  refine w_one ?_
  have h := Option.some.inj h
  subst h
  exact w_sret (e_t (a_c (e_m rfl) (a_c (e_m rfl) (a_c (e_m rfl) (a_c (e_m rfl) (a_c e_c a_n))))) rfl (show _ = ((.tup [(oL eTSI ((c2, c4, c6, c8, (0 : Int)).1)), (oL eTSI ((c2, c4, c6, c8, (0 : Int)).2.1)), (oL eTSI ((c2, c4, c6, c8, (0 : Int)).2.2.1)), (oL eTSI ((c2, c4, c6, c8, (0 : Int)).2.2.2.1)), (.p (D.int ((c2, c4, c6, c8, (0 : Int)).2.2.2.2)))]) : T) from rfl)) (Or.inl rfl)
def n_begun (p_deal : List R3) : Option R6 :=
  (compO (fun (x1 : R3) => (n_book_begun x1).bind fun x2 =>
  some x2) p_deal).bind fun c3 =>
  (compT (fun (x4 : R3) => (0 : Int)) p_deal).bind fun c5 =>
  some (c3, ([] : List D), c5)
theorem l_begun {p_deal : List R3} {r : R6} (h : n_begun p_deal = some r) : phi_begun [(eLs eR3) p_deal] = some (.tup [(oE (fun v => (.tup [(oL eTSI v.1), (oL eTSI v.2.1), (oL eTSI v.2.2.1), (oL eTSI v.2.2.2.1), (.p (D.int v.2.2.2.2))])) r.1), (oL eD r.2.1), (oL D.int r.2.2)]) := by
  unfold n_begun at h
  refine runF_wp rfl ?_
  show Wp (F_begun [some (.p (eLs eR3 p_deal)), none]) _
  unfold F_begun
  refine w_one ?_
  refine bnd h fun c3 hc3 h => ?_
  refine bnd h fun c5 hc5 h => ?_
  have h := Option.some.inj h
  subst h
  exact w_sret (e_t (a_c (e_comp (w := [some (.p (eLs eR3 p_deal)), none]) (dd := eR3) (E := (fun v => (.tup [(oL eTSI v.1), (oL eTSI v.2.1), (oL eTSI v.2.2.1), (oL eTSI v.2.2.2.1), (.p (D.int v.2.2.2.2))]))) (i_l (e_v rfl)) rfl ((compO_F _ _).symm.trans hc3) (fun x1 => ⟨_, rfl, _, rfl, (fun hp => nomatch hp), fun y hp h => by
    refine bnd h fun x2 hx2 h => ?_
    have h := Option.some.inj h; subst h
    exact ⟨_, (e_call (a_c (e_v rfl) a_n) rfl (l_book_begun hx2)), rfl⟩⟩)) (a_c (e_l a_n rfl rfl) (a_c (e_compP (w := [some (.p (eLs eR3 p_deal)), none]) (dd := eR3) (E := D.int) (i_l (e_v rfl)) rfl ((compT_F _ _).symm.trans hc5) (fun x4 => ⟨_, rfl, _, rfl, (fun hp => nomatch hp), fun y hp h => by
    have h := Option.some.inj h; subst h
    exact ⟨_, e_c, rfl⟩⟩)) a_n))) rfl (show _ = ((.tup [(oE (fun v => (.tup [(oL eTSI v.1), (oL eTSI v.2.1), (oL eTSI v.2.2.1), (oL eTSI v.2.2.2.1), (.p (D.int v.2.2.2.2))])) ((c3, ([] : List D), c5).1)), (oL eD ((c3, ([] : List D), c5).2.1)), (oL D.int ((c3, ([] : List D), c5).2.2))]) : T) from rfl)) (Or.inl rfl)
def n_law (p_law_script : List Int) : Option Bool :=
  (n_law_deal p_law_script (3 : Int)).bind fun x1 =>
  (atI x1 (0 : Int)).bind fun x2 =>
  (n_law_book p_law_script x2).bind fun x3 =>
  (n_order_now x2 x3).bind fun x4 =>
  (if (!true) = true then some true else ((n_law_due x2 x3).bind fun x5 =>
  (if (!decide (x4 = x5)) = true then some true else ((n_law_book p_law_script x2).bind fun x6 =>
  (eqQ (eR4 x3) (eR4 x6)).bind fun x7 =>
  some (!x7))).bind fun x8 =>
  some x8)).bind fun x9 =>
  (if x9 = true then
  (some false)
  else ((fold (fun (x11 : R3) (s10 : (List R4)) =>
  (compT (fun (x17 : TSII) => (x17.1, (0 : Int))) x11.2.1).bind fun c18 =>
  (compT (fun (x19 : TSII) => (x19.1, x19.2.1)) x11.2.1).bind fun c20 =>
  (compT (fun (x21 : TSI) => (x21.1, (0 : Int))) x11.2.2.1).bind fun c22 =>
  (push s10 (c20, c18, c18, c22, (0 : Int))).bind fun x23 =>
  some x23) x1 ([] : List R4)).bind fun s24 =>
  (n_begun x1).bind fun x25 =>
  (if (!true) = true then some true else ((opB (phi_law_plain 8 [eR6 x25])).bind fun x26 =>
  (if (!x26) = true then some true else ((n_law_deal p_law_script (3 : Int)).bind fun x27 =>
  (eqQ ((eLs eR3) x1) ((eLs eR3) x27)).bind fun x28 =>
  some (!x28))).bind fun x29 =>
  some x29)).bind fun x30 =>
  (if x30 = true then
  (some false)
  else ((compT (fun (x31 : R3) => (0 : Int)) x1).bind fun c32 =>
  (eqQ (eR6 x25) (eR6 (s24, ([] : List D), c32))).bind fun x33 =>
  some x33))))
theorem l_law {p_law_script : List Int} {r : Bool} (h : n_law p_law_script = some r) : phi_law [(eLs D.int) p_law_script] = some (.p (D.bl r)) := by
  unfold n_law at h
  refine runF_wp rfl ?_
  show Wp (F_law [some (.p (eLs D.int p_law_script)), none, none, none, none, none, none, none, none, none, none, none]) _
  unfold F_law
  refine bnd h fun x1 hx1 h => ?_
  refine w_seq (e1 := [some (.p (eLs D.int p_law_script)), some (.p (eLs eR3 x1)), none, none, none, none, none, none, none, none, none, none]) (w_set2 (e_fz (d := (eLs eR3) x1) (e_call (a_c (e_v rfl) (a_c e_c a_n)) rfl (l_law_deal hx1)) (oL_toD _)) rfl rfl) ?_
  refine bnd h fun x2 hx2 h => ?_
  refine w_seq (e1 := [some (.p (eLs D.int p_law_script)), some (.p (eLs eR3 x1)), some (.p (eR3 x2)), none, none, none, none, none, none, none, none, none]) (w_set2 (e_w (e_ix (e_b rfl) e_c (x_l hx2))) rfl rfl) ?_
  refine bnd h fun x3 hx3 h => ?_
  refine w_seq (e1 := [some (.p (eLs D.int p_law_script)), some (.p (eLs eR3 x1)), some (.p (eR3 x2)), some (.p (eR4 x3)), none, none, none, none, none, none, none, none]) (w_set2 (e_fz (d := eR4 x3) (e_call (a_c (e_v rfl) (a_c (e_v rfl) a_n)) rfl (l_law_book hx3)) (u_t (u_c (oL_toD _) (u_c (oL_toD _) (u_c (oL_toD _) (u_c (oL_toD _) (u_c (u_p _) u_n))))))) rfl rfl) ?_
  refine bnd h fun x4 hx4 h => ?_
  refine w_seq (e1 := [some (.p (eLs D.int p_law_script)), some (.p (eLs eR3 x1)), some (.p (eR3 x2)), some (.p (eR4 x3)), some (.p (eS x4)), none, none, none, none, none, none, none]) (w_set2 (e_fz (d := eS x4) (e_call (a_c (e_v rfl) (a_c (e_v rfl) a_n)) rfl (l_order_now hx4)) (u_p _)) rfl rfl) ?_
  refine bnd h fun x9 hx9 h => ?_
  refine w_if (c_orO (c_not (c_t (e_isi (e_b rfl) (u_p _) rfl (by show kitB "str" "str" = some true; decide +kernel)))) hx9 (fun _ h => by
    refine bnd h fun x5 hx5 h => ?_
    refine bnd h fun x8 hx8 h => ?_
    have h := Option.some.inj h; subst h
    exact (c_orO (c_t (e_cmp (e_b rfl) (e_call (a_c (e_v rfl) (a_c (e_v rfl) a_n)) rfl (l_law_due hx5)) (u_p _) (u_p _) (g_ne eqQ_g))) hx8 (fun _ h => by
    refine bnd h fun x6 hx6 h => ?_
    refine bnd h fun x7 hx7 h => ?_
    have h := Option.some.inj h; subst h
    exact (c_t (e_cmp (x := eR4 x3) (y := eR4 x6) (e_b rfl) (e_call (a_c (e_v rfl) (a_c (e_v rfl) a_n)) rfl (l_law_book hx6)) (u_p _) (u_t (u_c (oL_toD _) (u_c (oL_toD _) (u_c (oL_toD _) (u_c (oL_toD _) (u_c (u_p _) u_n)))))) (g_ne hx7))))))) h (fun hb h => ?_) (fun hb h => ?_)
  · have h := Option.some.inj h
    subst h
    exact w_sret e_c (Or.inl rfl)
  · refine w_snx ?_
    refine w_seq (e1 := [some (.p (eLs D.int p_law_script)), some (.p (eLs eR3 x1)), some (.p (eR3 x2)), some (.p (eR4 x3)), some (.p (eS x4)), some (oL eR4 ([] : List R4)), none, none, none, none, none, none]) (w_set2 (e_l a_n rfl rfl) rfl rfl) ?_
    refine bnd h fun s24 hs24 h => ?_
    refine w_for (P := (fun e => ∃ u12, ∃ u13, ∃ u14, ∃ u15, ∃ u16, e = [some (.p (eLs D.int p_law_script)), some (.p (eLs eR3 x1)), some (.p (eR3 x2)), some (.p (eR4 x3)), some (.p (eS x4)), some (oL eR4 s24), u12, u13, u14, u15, u16, none])) (i_l (e_v rfl)) (loop_fold (dd := eR3) (fun (s10 : (List R4)) e => ∃ u12, ∃ u13, ∃ u14, ∃ u15, ∃ u16, e = [some (.p (eLs D.int p_law_script)), some (.p (eLs eR3 x1)), some (.p (eR3 x2)), some (.p (eR4 x3)), some (.p (eS x4)), some (oL eR4 s10), u12, u13, u14, u15, u16, none]) ?_ _ _ _ _ ⟨_, _, _, _, _, rfl⟩ hs24) (fun e he => ?_)
    · intro x11 s10 sN env hR h
      obtain ⟨u12, u13, u14, u15, u16, rfl⟩ := hR
      refine ⟨_, rfl, ?_⟩
      unfold B_law_1
      refine bnd h fun c18 hc18 h => ?_
      refine w_seq (e1 := [some (.p (eLs D.int p_law_script)), some (.p (eLs eR3 x1)), some (.p (eR3 x2)), some (.p (eR4 x3)), some (.p (eS x4)), some (oL eR4 s10), some (.p (eR3 x11)), some (oL eTSI c18), none, u15, u16, none]) (w_set2 (e_compP (w := [some (.p (eLs D.int p_law_script)), some (.p (eLs eR3 x1)), some (.p (eR3 x2)), some (.p (eR4 x3)), some (.p (eS x4)), some (oL eR4 s10), some (.p (eR3 x11)), u13, none, u15, u16, none]) (dd := eTSII) (E := eTSI) (i_l (e_w (e_ix (e_b rfl) e_c (x_t 1 rfl)))) rfl ((compT_F _ _).symm.trans hc18) (fun x17 => ⟨_, rfl, _, rfl, (fun hp => nomatch hp), fun y hp h => by
    have h := Option.some.inj h; subst h
    exact ⟨_, (e_t (a_c (e_w (e_ix (e_b rfl) e_c (x_t 0 rfl))) (a_c e_c a_n)) rfl (show _ = ((.p (eTSI (x17.1, (0 : Int)))) : T) from rfl)), rfl⟩⟩)) rfl rfl) ?_
      refine bnd h fun c20 hc20 h => ?_
      refine w_seq (e1 := [some (.p (eLs D.int p_law_script)), some (.p (eLs eR3 x1)), some (.p (eR3 x2)), some (.p (eR4 x3)), some (.p (eS x4)), some (oL eR4 s10), some (.p (eR3 x11)), some (oL eTSI c18), none, some (oL eTSI c20), u16, none]) (w_set2 (e_compP (w := [some (.p (eLs D.int p_law_script)), some (.p (eLs eR3 x1)), some (.p (eR3 x2)), some (.p (eR4 x3)), some (.p (eS x4)), some (oL eR4 s10), some (.p (eR3 x11)), some (oL eTSI c18), none, u15, u16, none]) (dd := eTSII) (E := eTSI) (i_l (e_w (e_ix (e_b rfl) e_c (x_t 1 rfl)))) rfl ((compT_F _ _).symm.trans hc20) (fun x19 => ⟨_, rfl, _, rfl, (fun hp => nomatch hp), fun y hp h => by
    have h := Option.some.inj h; subst h
    exact ⟨_, (e_t (a_c (e_w (e_ix (e_b rfl) e_c (x_t 0 rfl))) (a_c (e_w (e_ix (e_b rfl) e_c (x_t 1 rfl))) a_n)) rfl (show _ = ((.p (eTSI (x19.1, x19.2.1))) : T) from rfl)), rfl⟩⟩)) rfl rfl) ?_
      refine w_one ?_
      refine bnd h fun c22 hc22 h => ?_
      refine bnd h fun x23 hx23 h => ?_
      refine w_seq (e1 := [some (.p (eLs D.int p_law_script)), some (.p (eLs eR3 x1)), some (.p (eR3 x2)), some (.p (eR4 x3)), some (.p (eS x4)), some (oL eR4 x23), some (.p (eR3 x11)), some (.p (eLs eTSI c18)), none, some (.p (eLs eTSI c20)), none, none]) (w_appL2 (dd := eR4) rfl (e_fz (d := eR4 (c20, c18, c18, c22, (0 : Int))) (e_t (a_c (e_vl (d := (eLs eTSI) c20) rfl (oL_toD _)) (a_c (e_vl (d := (eLs eTSI) c18) rfl (oL_toD _)) (a_c (e_list (e_b rfl) (it_p _ _) rfl) (a_c (e_compP (w := [some (.p (eLs D.int p_law_script)), some (.p (eLs eR3 x1)), some (.p (eR3 x2)), some (.p (eR4 x3)), some (.p (eS x4)), some (oL eR4 s10), some (.p (eR3 x11)), some (.p (eLs eTSI c18)), none, some (.p (eLs eTSI c20)), none, none]) (dd := eTSI) (E := eTSI) (i_l (e_w (e_ix (e_b rfl) e_c (x_t 2 rfl)))) rfl ((compT_F _ _).symm.trans hc22) (fun x21 => ⟨_, rfl, _, rfl, (fun hp => nomatch hp), fun y hp h => by
    have h := Option.some.inj h; subst h
    exact ⟨_, (e_t (a_c (e_w (e_ix (e_b rfl) e_c (x_t 0 rfl))) (a_c e_c a_n)) rfl (show _ = ((.p (eTSI (x21.1, (0 : Int)))) : T) from rfl)), rfl⟩⟩)) (a_c e_c a_n))))) rfl (show _ = ((.tup [(.p (eLs eTSI ((c20, c18, c18, c22, (0 : Int)).1))), (.p (eLs eTSI ((c20, c18, c18, c22, (0 : Int)).2.1))), (oL eTSI ((c20, c18, c18, c22, (0 : Int)).2.2.1)), (oL eTSI ((c20, c18, c18, c22, (0 : Int)).2.2.2.1)), (.p (D.int ((c20, c18, c18, c22, (0 : Int)).2.2.2.2)))]) : T) from rfl)) (u_t (u_c (u_p _) (u_c (u_p _) (u_c (oL_toD _) (u_c (oL_toD _) (u_c (u_p _) u_n))))))) rfl hx23 rfl) ?_
      have h := Option.some.inj h
      subst h
      exact w_nx ⟨Or.inl rfl, ⟨_, _, _, _, _, rfl⟩⟩
    · obtain ⟨u12, u13, u14, u15, u16, rfl⟩ := he
      refine bnd h fun x25 hx25 h => ?_
      refine w_seq (e1 := [some (.p (eLs D.int p_law_script)), some (.p (eLs eR3 x1)), some (.p (eR3 x2)), some (.p (eR4 x3)), some (.p (eS x4)), some (oL eR4 s24), u12, u13, u14, u15, u16, some (.p (eR6 x25))]) (w_set2 (e_fz (d := eR6 x25) (e_call (a_c (e_v rfl) a_n) rfl (l_begun hx25)) (u_t (u_c (oE_toD (fun _ => (u_t (u_c (oL_toD _) (u_c (oL_toD _) (u_c (oL_toD _) (u_c (oL_toD _) (u_c (u_p _) u_n))))))) _) (u_c (oL_toD _) (u_c (oL_toD _) u_n))))) rfl rfl) ?_
      refine bnd h fun x30 hx30 h => ?_
      refine w_if (c_orO (c_not (c_t (e_isi (e_b rfl) (u_p _) rfl (by show kitB "tuple" "tuple" = some true; decide +kernel)))) hx30 (fun _ h => by
    refine bnd h fun x26 hx26 h => ?_
    refine bnd h fun x29 hx29 h => ?_
    have h := Option.some.inj h; subst h
    exact (c_orO (c_not (c_t (e_call (a_c (e_v rfl) a_n) rfl (opq_B hx26)))) hx29 (fun _ h => by
    refine bnd h fun x27 hx27 h => ?_
    refine bnd h fun x28 hx28 h => ?_
    have h := Option.some.inj h; subst h
    exact (c_t (e_cmp (x := (eLs eR3) x1) (y := (eLs eR3) x27) (e_b rfl) (e_call (a_c (e_v rfl) (a_c e_c a_n)) rfl (l_law_deal hx27)) (u_p _) (oL_toD _) (g_ne hx28))))))) h (fun hb h => ?_) (fun hb h => ?_)
      · have h := Option.some.inj h
        subst h
        exact w_sret e_c (Or.inl rfl)
      · refine w_snx ?_
        refine w_one ?_
        refine bnd h fun c32 hc32 h => ?_
        refine bnd h fun x33 hx33 h => ?_
        have h := Option.some.inj h
        subst h
        exact w_sret (e_cmp (x := eR6 x25) (y := eR6 (s24, ([] : List D), c32)) (e_b rfl) (e_t (a_c (e_vl (d := (eLs eR4) s24) rfl (oL_toD _)) (a_c (e_l a_n rfl rfl) (a_c (e_compP (w := [some (.p (eLs D.int p_law_script)), some (.p (eLs eR3 x1)), some (.p (eR3 x2)), some (.p (eR4 x3)), some (.p (eS x4)), some (.p (eLs eR4 s24)), none, u13, u14, u15, u16, some (.p (eR6 x25))]) (dd := eR3) (E := D.int) (i_l (e_v rfl)) rfl ((compT_F _ _).symm.trans hc32) (fun x31 => ⟨_, rfl, _, rfl, (fun hp => nomatch hp), fun y hp h => by
    have h := Option.some.inj h; subst h
    exact ⟨_, e_c, rfl⟩⟩)) a_n))) rfl (show _ = ((.tup [(.p (eLs eR4 ((s24, ([] : List D), c32).1))), (oL eD ((s24, ([] : List D), c32).2.1)), (oL D.int ((s24, ([] : List D), c32).2.2))]) : T) from rfl)) (u_p _) (u_t (u_c (u_p _) (u_c (oL_toD _) (u_c (oL_toD _) u_n)))) hx33) (Or.inl rfl)
end K30

set_option Elab.async false
set_option linter.all false
set_option maxRecDepth 100000
set_option maxHeartbeats 2000000
namespace DK
open PySem PySem.Spec PyProof.Rows L2 DL
abbrev TSS : Type := Nm × Nm
abbrev eTSS : TSS → D := eT2 eS eS
abbrev R1 : Type := Nm × (List Nm)
abbrev eR1 : R1 → D := eT2 eS (eSq eS)
abbrev TSSI : Type := Nm × Nm × Int
abbrev eTSSI : TSSI → D := eT3 eS eS D.int
abbrev TSI : Type := Nm × Int
abbrev eTSI : TSI → D := eT2 eS D.int
abbrev R2 : Type := Nm × (List TSI) × (List D)
abbrev eR2 : R2 → D := eT3 eS (eLs eTSI) (eLs eD)
abbrev TIS : Type := Int × Nm
abbrev eTIS : TIS → D := eT2 D.int eS
abbrev TSII : Type := Nm × Int × Int
abbrev eTSII : TSII → D := eT3 eS D.int D.int
abbrev TSIS : Type := Nm × Int × Nm
abbrev eTSIS : TSIS → D := eT3 eS D.int eS
abbrev R3 : Type := Nm × (List TSII) × (List TSI) × (List Nm) × (List R2) × (List TSIS) × (List TSS)
abbrev eR3 : R3 → D := eT7 eS (eLs eTSII) (eLs eTSI) (eLs eS) (eLs eR2) (eLs eTSIS) (eLs eTSS)
def n_law_draw (p_law_script : List Int) (p_law_k : Int) (p_law_many : Int) : Option Int :=
  ((if (decide ((0 : Int) < (p_law_script.length : Int))) = true then
  ((modN p_law_k (p_law_script.length : Int)).bind fun x1 =>
  (atI p_law_script x1).bind fun x2 =>
  some x2)
  else (some (0 : Int))) : Option Int).bind fun s3 =>
  (mulN ((1103 : Int) * p_law_k) p_law_k).bind fun x4 =>
  (mulN (((s3 % (2147483647 : Int)) + ((7 : Int) * p_law_k)) + (3 : Int)) ((48271 : Int) + x4)).bind fun x5 =>
  (modN ((x5 % (2147483629 : Int)) / (64 : Int)) p_law_many).bind fun x6 =>
  some x6
def n_law_names (p_law_script : List Int) : Option (List Nm) :=
  (n_law_draw p_law_script (901 : Int) (2 : Int)).bind fun x1 =>
  (repN (cod "zq") x1).bind fun x2 =>
  (n_law_draw p_law_script (902 : Int) (4 : Int)).bind fun x3 =>
  (cutN (cod "vzb") none (some x3)).bind fun x4 =>
  (n_law_draw p_law_script (903 : Int) (16 : Int)).bind fun x5 =>
  (rng1  (16 : Int)).bind fun x6 =>
  (compO (fun (x7 : Int) => (ixS (cod "bcdfgjkmnpqvwxyz") ((x5 + x7) % (16 : Int))).bind fun x8 =>
  (catS x2 x8).bind fun x9 =>
  (catS x9 x4).bind fun x10 =>
  some x10) x6).bind fun c11 =>
  some c11
def n_law_coins (p_law_script : List Int) (p_law_k : Int) : Option Int :=
  ((if (decide ((0 : Int) < (p_law_script.length : Int))) = true then
  ((modN p_law_k (p_law_script.length : Int)).bind fun x1 =>
  (atI p_law_script x1).bind fun x2 =>
  some x2)
  else (some (0 : Int))) : Option Int).bind fun s3 =>
  (n_law_draw p_law_script (900 : Int) (3 : Int)).bind fun x4 =>
  (if (decide ((0 : Int) < x4)) = true then
  ((n_law_draw p_law_script p_law_k (9 : Int)).bind fun x5 =>
  some ((1 : Int) + x5))
  else ((mulN p_law_k p_law_k).bind fun x6 =>
  (mulN (((s3 % (10000000000000000000000000000000000000000 : Int)) + x6) + (1 : Int)) (262078551400494415750351 : Int)).bind fun x7 =>
  some ((1 : Int) + (x7 % (1000000000000 : Int)))))
def n_law_rule (p_law_script : List Int) (p_law_k : Int) (p_law_claims : List Nm) (p_law_pots : List Nm) (p_law_others : List Nm) : Option D :=
  (n_law_draw p_law_script p_law_k (9 : Int)).bind fun x1 =>
  (n_law_draw p_law_script (p_law_k + (1 : Int)) (p_law_claims.length : Int)).bind fun x2 =>
  (atI p_law_claims x2).bind fun x3 =>
  (if (decide (x1 < (3 : Int))) = true then
  (some (eTSS ((cod "pay"), x3)))
  else ((if (decide (x1 = (3 : Int))) = true then ((if (decide ((1 : Int) < (p_law_claims.length : Int))) = true then ((n_law_draw p_law_script (p_law_k + (2 : Int)) (2 : Int)).bind fun x4 =>
  some (decide (x4 = (0 : Int)))) else some false).bind fun x5 =>
  some x5) else some false).bind fun x6 =>
  (if x6 = true then
  (some (eR1 ((cod "share"), (cutA p_law_claims none (some (2 : Int))))))
  else ((if ((decide (x1 = (3 : Int))) && (decide ((1 : Int) < (p_law_claims.length : Int)))) = true then
  ((catL (cutA p_law_claims (some (-(1 : Int))) none) (cutA p_law_claims none (some (-(1 : Int))))).bind fun x7 =>
  some (eR1 ((cod "share"), x7)))
  else ((if (decide (x1 = (4 : Int))) = true then
  (some (eTSS ((cod "repay"), x3)))
  else ((if ((decide (x1 = (5 : Int))) && (decide ((0 : Int) < (p_law_pots.length : Int)))) = true then
  ((n_law_draw p_law_script (p_law_k + (2 : Int)) (p_law_pots.length : Int)).bind fun x8 =>
  (atI p_law_pots x8).bind fun x9 =>
  some (eTSS ((cod "fill"), x9)))
  else ((if ((decide ((5 : Int) < x1)) && (decide ((0 : Int) < (p_law_others.length : Int)))) = true then
  ((n_law_draw p_law_script (p_law_k + (2 : Int)) (p_law_others.length : Int)).bind fun x10 =>
  (atI p_law_others x10).bind fun x11 =>
  (if (decide (x1 = (8 : Int))) = true then
  (some (eTSS ((cod "back"), x11)))
  else ((n_law_coins p_law_script (p_law_k + (3 : Int))).bind fun x12 =>
  some (eTSSI ((cod "lend"), x11, x12)))))
  else (some (eTSS ((cod "pay"), x3))))))))))))))
def n_law_order (p_law_script : List Int) (p_law_k : Int) (p_law_name : Nm) (p_law_claims : List Nm) (p_law_pots : List Nm) (p_law_others : List Nm) : Option R2 :=
  (fold (fun (x2 : TIS) (s1 : (List TSI)) =>
  (n_law_draw p_law_script (p_law_k + x2.1) (4 : Int)).bind fun x5 =>
  (if (decide (x5 = (0 : Int))) = true then
  ((n_law_draw p_law_script ((p_law_k + (5 : Int)) + x2.1) (10 : Int)).bind fun x6 =>
  (push s1 (x2.2, ((1 : Int) + x6))).bind fun x7 =>
  some x7)
  else (some s1))) (enumN 0 p_law_claims) ([] : List TSI)).bind fun s8 =>
  (n_law_draw p_law_script (p_law_k + (8 : Int)) (6 : Int)).bind fun x9 =>
  (rng1  x9).bind fun x10 =>
  (fold (fun (x12 : Int) (s11 : (List D)) =>
  (n_law_rule p_law_script ((p_law_k + (10 : Int)) + ((5 : Int) * x12)) p_law_claims p_law_pots p_law_others).bind fun x14 =>
  (push s11 x14).bind fun x15 =>
  some x15) x10 ([] : List D)).bind fun s16 =>
  (n_law_draw p_law_script (p_law_k + (9 : Int)) (p_law_claims.length : Int)).bind fun x17 =>
  (atI p_law_claims x17).bind fun x18 =>
  (catL s16 [eTSS ((cod "rest"), x18)]).bind fun x19 =>
  some (p_law_name, s8, x19)
def n_law_free (p_law_orders : List R2) (p_law_claims : List Nm) : Option (List Nm) :=
  (fold (fun (x2 : R2) (s1 : (List D)) =>
  (fold (fun (x8 : D) (s7 : (List D)) =>
  (ixD x8 (0 : Int)).bind fun x10 =>
  (eqQ (eD x10) (eS (cod "share"))).bind fun x11 =>
  ((if x11 = true then
  ((ixD x8 (1 : Int)).bind fun x12 =>
  (itemsT (.p x12)).bind fun x13 =>
  (catL s7 x13).bind fun x14 =>
  some x14)
  else (some s7)) : Option ((List D))).bind fun s15 =>
  (ixD x8 (0 : Int)).bind fun x16 =>
  (eqQ (eD x16) (eS (cod "repay"))).bind fun x17 =>
  (if x17 = true then
  ((ixD x8 (1 : Int)).bind fun x18 =>
  (push s15 x18).bind fun x19 =>
  some x19)
  else (some s15))) x2.2.2 s1).bind fun s20 =>
  some s20) p_law_orders ([] : List D)).bind fun s21 =>
  (compG (fun (x22 : Nm) =>
  (inQ (eS x22) ((eLs eD) s21)).bind fun x23 =>
  (if (!x23) = true then (some (some x22)) else some none)) p_law_claims).bind fun c24 =>
  some c24
def n_law_some (p_law_script : List Int) (p_law_k : Int) (p_law_names_here : List Nm) : Option (List Nm) :=
  (fold (fun (x2 : TIS) (s1 : (List Nm)) =>
  (n_law_draw p_law_script (p_law_k + x2.1) (3 : Int)).bind fun x5 =>
  (if (decide ((0 : Int) < x5)) = true then
  ((push s1 x2.2).bind fun x6 =>
  some x6)
  else (some s1))) (enumN 0 p_law_names_here) ([] : List Nm)).bind fun s7 =>
  (n_law_draw p_law_script (p_law_k + (9 : Int)) (2 : Int)).bind fun x8 =>
  ((if (decide (x8 = (1 : Int))) = true then
  (some s7.reverse)
  else (some s7)) : Option ((List Nm))).bind fun s9 =>
  some s9
def n_law_pool (p_law_script : List Int) (p_law_k : Int) (p_law_name : Nm) (p_law_claims : List Nm) (p_law_pots : List Nm) (p_law_others : List Nm) : Option R3 :=
  (fold (fun (x2 : TIS) (s1 : (List TSII)) =>
  (n_law_coins p_law_script ((p_law_k + (20 : Int)) + x2.1)).bind fun x5 =>
  (n_law_coins p_law_script ((p_law_k + (24 : Int)) + x2.1)).bind fun x6 =>
  (push s1 (x2.2, x5, x6)).bind fun x7 =>
  some x7) (enumN 0 p_law_claims) ([] : List TSII)).bind fun s8 =>
  (n_law_draw p_law_script (p_law_k + (1 : Int)) (3 : Int)).bind fun x9 =>
  (fold (fun (x11 : TIS) (s10 : (List R2)) =>
  (n_law_order p_law_script ((p_law_k + ((60 : Int) * x11.1)) + (30 : Int)) x11.2 p_law_claims p_law_pots p_law_others).bind fun x14 =>
  (push s10 x14).bind fun x15 =>
  some x15) (enumN 0 (cutA [(cod "bb"), (cod "ck"), (cod "dd")] none (some ((1 : Int) + x9)))) ([] : List R2)).bind fun s16 =>
  (n_law_draw p_law_script (p_law_k + (2 : Int)) (3 : Int)).bind fun x17 =>
  (rng1  x17).bind fun x18 =>
  (fold (fun (x20 : Int) (s19 : (List TSIS)) =>
  (n_law_draw p_law_script ((p_law_k + (3 : Int)) + x20) (p_law_claims.length : Int)).bind fun x24 =>
  (atI p_law_claims x24).bind fun x25 =>
  (n_law_draw p_law_script ((p_law_k + (5 : Int)) + x20) ((cutA [(cod "bb"), (cod "ck"), (cod "dd")] none (some ((1 : Int) + x9))).length : Int)).bind fun x26 =>
  (atI (cutA [(cod "bb"), (cod "ck"), (cod "dd")] none (some ((1 : Int) + x9))) x26).bind fun x27 =>
  (n_law_draw p_law_script ((p_law_k + (7 : Int)) + x20) (3 : Int)).bind fun x28 =>
  (push s19 (x25, ((1 : Int) + x28), x27)).bind fun x29 =>
  some x29) x18 ([] : List TSIS)).bind fun s30 =>
  (n_law_free s16 p_law_claims).bind fun x31 =>
  (n_law_draw p_law_script (p_law_k + (10 : Int)) (4 : Int)).bind fun x32 =>
  (fold (fun (x34 : TIS) (s33 : (List TSS)) =>
  (if (decide ((0 : Int) < (p_law_pots.length : Int))) = true then
  ((n_law_draw p_law_script ((p_law_k + (11 : Int)) + x34.1) (p_law_pots.length : Int)).bind fun x37 =>
  (atI p_law_pots x37).bind fun x38 =>
  (push s33 (x38, x34.2)).bind fun x39 =>
  some x39)
  else (some s33))) (enumN 0 (cutA x31 none (some x32))) ([] : List TSS)).bind fun s40 =>
  (compO (fun (x41 : TIS) => (n_law_coins p_law_script ((p_law_k + (16 : Int)) + x41.1)).bind fun x42 =>
  some (x41.2, x42)) (enumN 0 p_law_pots)).bind fun c43 =>
  (n_law_some p_law_script (p_law_k + (13 : Int)) p_law_claims).bind fun x44 =>
  some (p_law_name, s8, c43, x44, s16, s30, s40)
def n_law_deal (p_law_script : List Int) (p_law_most : Int) : Option (List R3) :=
  (n_law_names p_law_script).bind fun x1 =>
  (n_law_draw p_law_script (904 : Int) p_law_most).bind fun x2 =>
  (rng1  ((1 : Int) + x2)).bind fun x3 =>
  (fold (fun (x5 : Int) (s4 : (List R3)) =>
  (n_law_draw p_law_script ((905 : Int) + x5) (3 : Int)).bind fun x12 =>
  (atI (cutA x1 (some ((3 : Int) + ((4 : Int) * x5))) (some ((7 : Int) + ((4 : Int) * x5)))) (3 : Int)).bind fun x13 =>
  (atI (cutA x1 (some ((3 : Int) + ((4 : Int) * x5))) (some ((7 : Int) + ((4 : Int) * x5)))) (3 : Int)).bind fun x14 =>
  (catS x14 (cod "h")).bind fun x15 =>
  (n_law_draw p_law_script ((910 : Int) + x5) (3 : Int)).bind fun x16 =>
  (compG (fun (x17 : Nm) =>
  (atI x1 x5).bind fun x18 =>
  (if (!decide (x17 = x18)) = true then (some (some x17)) else some none)) (cutA x1 none (some ((1 : Int) + x2)))).bind fun c19 =>
  (atI x1 x5).bind fun x20 =>
  (n_law_pool p_law_script ((200 : Int) * x5) x20 (cutA (cutA x1 (some ((3 : Int) + ((4 : Int) * x5))) (some ((7 : Int) + ((4 : Int) * x5)))) none (some ((1 : Int) + x12))) (cutA [x13, x15] none (some x16)) c19).bind fun x21 =>
  (push s4 x21).bind fun x22 =>
  some x22) x3 ([] : List R3)).bind fun s23 =>
  some s23
end DK

set_option Elab.async false
set_option linter.all false
set_option maxRecDepth 100000
set_option maxHeartbeats 1000000
/-! Deals as k30 and its like draw them: each draw answers, and the deal is well formed. -/
namespace DK
open PySem PySem.Spec PyProof.Rows L2 DL
theorem draw_ok (ns : List Int) (k m : Int) (hk : 0 ≤ k ∧ k ≤ 100000) (hm : 1 ≤ m) : Ok (n_law_draw ns k m) fun x => 0 ≤ x ∧ x < m := by
  unfold n_law_draw
  refine ok_bind (Q := fun _ => True) ?_ fun s _ => ?_
  · refine ok_dite (fun h => ?_) (fun h => ok_some trivial)
    refine ok_bind (ok_mod h) fun x hx => ?_
    exact ok_bind (ok_atI (R := fun _ => True) hx.1 hx.2 fun _ _ => trivial) fun _ _ => ok_some trivial
  · refine ok_eq (mulN_r (by omega)) ?_
    have h1 : 0 ≤ 1103 * k * k := Int.mul_nonneg (by omega) hk.1
    have h2 : 1103 * k * k ≤ 110300000 * 100000 := Int.mul_le_mul (by omega) hk.2 hk.1 (by omega)
    refine ok_eq (mulN_r (by omega)) ?_
    exact ok_bind (ok_mod (by omega)) fun x hx => ok_some hx
theorem coins_ok (ns : List Int) (k : Int) (hk : 0 ≤ k ∧ k ≤ 100000) : Ok (n_law_coins ns k) fun x => 1 ≤ x ∧ x ≤ 1000000000000 := by
  unfold n_law_coins
  refine ok_bind (Q := fun _ => True) ?_ fun s _ => ?_
  · refine ok_dite (fun h => ?_) (fun h => ok_some trivial)
    refine ok_bind (ok_mod h) fun x hx => ?_
    exact ok_bind (ok_atI (R := fun _ => True) hx.1 hx.2 fun _ _ => trivial) fun _ _ => ok_some trivial
  · refine ok_bind (draw_ok ns 900 3 (by omega) (by omega)) fun x hx => ?_
    refine ok_dite (fun h => ?_) (fun h => ?_)
    · exact ok_bind (draw_ok ns k 9 hk (by omega)) fun y hy => ok_some (by omega)
    · have h1 : 0 ≤ k * k := Int.mul_nonneg hk.1 hk.1
      have h2 : k * k ≤ 100000 * 100000 := Int.mul_le_mul hk.2 hk.2 hk.1 (by omega)
      refine ok_eq (mulN_r (by omega)) ?_
      refine ok_eq (mulN_b (by omega) (by omega) (by omega) (by omega)) ?_
      refine ok_some ?_
      generalize (s % 10000000000000000000000000000000000000000 + k * k + 1) * 262078551400494415750351 = z
      omega
def lets : List Nat := cod "bcdfgjkmnpqvwxyz"
theorem lets_len : lets.length = 16 := by decide
def nameK (A B : Nm) (f : Int) (k : Int) : Nm := A ++ [lets.getD ((f + k) % 16).toNat 0] ++ B
def namesK (A B : Nm) (f : Int) : List Nm := (List.range 16).map fun (k : Nat) => nameK A B f (k : Int)
theorem lets_inj : ∀ i < 16, ∀ j < 16, lets.getD i 0 = lets.getD j 0 → i = j := by decide +kernel
theorem nameK_inj {A B : Nm} {f i j : Int} (h0 : 0 ≤ i) (h1 : i < 16) (h2 : 0 ≤ j) (h3 : j < 16) (h : nameK A B f i = nameK A B f j) : i = j := by
  unfold nameK at h
  have h := List.append_cancel_right h
  have h := List.append_cancel_left h
  have h : lets.getD ((f + i) % 16).toNat 0 = lets.getD ((f + j) % 16).toNat 0 := by simpa using h
  have := lets_inj _ (by omega) _ (by omega) h
  omega
theorem namesK_nodup (A B : Nm) (f : Int) : (namesK A B f).Nodup := by
  unfold namesK
  rw [List.Nodup, List.pairwise_map]
  refine List.Pairwise.imp_of_mem (fun {a b} ha hb hne e => ?_) (List.nodup_range (n := 16))
  have h1 := List.mem_range.mp ha
  have h2 := List.mem_range.mp hb
  have := nameK_inj (by omega) (by omega) (by omega) (by omega) e
  omega
theorem namesK_len (A B : Nm) (f : Int) : (namesK A B f).length = 16 := by simp [namesK]
theorem lets_low : ∀ c ∈ lets, 97 ≤ c ∧ c ≤ 122 := by decide +kernel
/-- names are small letters, one to eight -/
def Low (n : Nm) : Prop := 1 ≤ n.length ∧ n.length ≤ 7 ∧ ∀ c ∈ n, 97 ≤ c ∧ c ≤ 122
theorem names_ok (ns : List Int) : ∃ (A B : Nm) (f : Int), A.length ≤ 2 ∧ B.length ≤ 3 ∧ (∀ c ∈ A ++ B, 97 ≤ c ∧ c ≤ 122) ∧ n_law_names ns = some (namesK A B f) := by
  obtain ⟨d1, h1, a0, a1⟩ := draw_ok ns 901 2 (by omega) (by omega)
  obtain ⟨d2, h2, b0, b1⟩ := draw_ok ns 902 4 (by omega) (by omega)
  obtain ⟨f, h3, f0, f1⟩ := draw_ok ns 903 16 (by omega) (by omega)
  obtain ⟨A, hA, lA, cA⟩ : ∃ A : Nm, repN (cod "zq") d1 = some A ∧ A.length ≤ 2 ∧ ∀ c ∈ A, 97 ≤ c ∧ c ≤ 122 := by
    have : d1 = 0 ∨ d1 = 1 := by omega
    rcases this with rfl | rfl
    · exact ⟨[], by decide, by decide, by decide⟩
    · exact ⟨cod "zq", by decide, by decide, by decide⟩
  obtain ⟨B, hB, lB, cB⟩ : ∃ B : Nm, cutN (cod "vzb") none (some d2) = some B ∧ B.length ≤ 3 ∧ ∀ c ∈ B, 97 ≤ c ∧ c ≤ 122 := by
    have : d2 = 0 ∨ d2 = 1 ∨ d2 = 2 ∨ d2 = 3 := by omega
    rcases this with rfl | rfl | rfl | rfl
    · exact ⟨[], by decide, by decide, by decide⟩
    · exact ⟨cod "v", by decide, by decide, by decide⟩
    · exact ⟨cod "vz", by decide, by decide, by decide⟩
    · exact ⟨cod "vzb", by decide, by decide, by decide⟩
  refine ⟨A, B, f, lA, lB, fun c hc => (List.mem_append.mp hc).elim (cA c) (cB c), ?_⟩
  unfold n_law_names
  rw [h1, bindS, hA, bindS, h2, bindS, hB, bindS, h3, bindS, rng1_eq (by omega) (by omega), bindS]
  rw [compO_eq (g := fun i => nameK A B f i) (by rw [rngN_len]; decide) (fun i hi => ?_)]
  · show some ((rngN 0 16).map _) = some ((List.range 16).map _)
    unfold rngN
    rw [List.map_map]
    refine congrArg some (List.map_congr_left fun k _ => ?_)
    show nameK A B f (0 + (k : Int)) = _
    rw [Int.zero_add]
  · have hi := rngN_mem hi
    have hi : 0 ≤ (f + i) % 16 := by omega
    have hi2 : (f + i) % 16 < (lets.length : Int) := by rw [lets_len]; omega
    obtain ⟨c, _, hc, hc2⟩ := atI_in hi hi2
    have e1 : ixS (cod "bcdfgjkmnpqvwxyz") ((f + i) % 16) = some [lets.getD ((f + i) % 16).toNat 0] := by
      show (if lets.length ≤ 16777216 then (atI lets _).map _ else none) = _
      rw [if_pos (by decide), hc, List.getD_eq_getElem?_getD, hc2]; rfl
    rw [e1, bindS, catS_eq (by simp; omega), bindS, catS_eq (by simp; omega), bindS]; rfl
theorem nameK_low {A B : Nm} {f k : Int} (lA : A.length ≤ 2) (lB : B.length ≤ 3) (h : ∀ c ∈ A ++ B, 97 ≤ c ∧ c ≤ 122) : Low (nameK A B f k) := by
  refine ⟨by simp [nameK]; omega, by simp [nameK]; omega, fun c hc => ?_⟩
  unfold nameK at hc
  rcases List.mem_append.mp hc with hc | hc
  · rcases List.mem_append.mp hc with hc | hc
    · exact h c (by simp [hc])
    · rw [List.mem_singleton.mp hc]
      have hi : ((f + k) % 16).toNat < lets.length := by rw [lets_len]; omega
      rw [List.getD_eq_getElem?_getD, List.getElem?_eq_getElem hi]
      exact lets_low _ (List.getElem_mem hi)
  · exact h c (by simp [hc])
theorem namesK_low {A B : Nm} {f : Int} (lA : A.length ≤ 2) (lB : B.length ≤ 3) (h : ∀ c ∈ A ++ B, 97 ≤ c ∧ c ≤ 122) : ∀ n ∈ namesK A B f, Low n := fun n hn => by
  obtain ⟨k, hk, rfl⟩ := List.mem_map.mp hn
  exact nameK_low lA lB h
-- rules
inductive Rl
  | pay (c : Nm) | share (cs : List Nm) | repay (c : Nm) | fill (p : Nm) | lend (o : Nm) (x : Int) | back (o : Nm) | rest (c : Nm)
def Rl.d : Rl → D
  | .pay c => eTSS (cod "pay", c)
  | .share cs => eT2 eS (eSq eS) (cod "share", cs)
  | .repay c => eTSS (cod "repay", c)
  | .fill p => eTSS (cod "fill", p)
  | .lend o x => eT3 eS eS D.int (cod "lend", o, x)
  | .back o => eTSS (cod "back", o)
  | .rest c => eTSS (cod "rest", c)
def Rl.In (cs ps os : List Nm) : Rl → Prop
  | .pay c => c ∈ cs
  | .share l => (∀ c ∈ l, c ∈ cs) ∧ l.Nodup ∧ 2 ≤ l.length
  | .repay c => c ∈ cs
  | .fill p => p ∈ ps
  | .lend o x => o ∈ os ∧ 1 ≤ x ∧ x ≤ 1000000000000
  | .back o => o ∈ os
  | .rest _ => False
theorem pick_ok (ns : List Int) (k : Int) (hk : 0 ≤ k ∧ k ≤ 100000) {cs : List Nm} (h0 : 1 ≤ cs.length) {α : Type} {kk : Int → Nm → Option α} {R : α → Prop} (h : ∀ x, ∀ c ∈ cs, Ok (kk x c) R) :
    Ok ((n_law_draw ns k (cs.length : Int)).bind fun x => (atI cs x).bind fun c => kk x c) R := by
  refine ok_bind (draw_ok ns k (cs.length : Int) hk (by omega)) fun x hx => ?_
  obtain ⟨c, hc, e, _⟩ := atI_in hx.1 hx.2
  rw [e]; exact h x c hc
theorem cut2 {cs : List Nm} : cutA cs none (some 2) = cs.take 2 := by
  unfold cutA
  rw [show HT.sIx cs.length 0 none = 0 from rfl, sIx_i (by omega), List.drop_zero, Nat.sub_zero]
  have : (2 : Int).toNat = 2 := rfl
  rw [this]
  by_cases h : cs.length ≤ 2
  · rw [Nat.min_eq_right h, List.take_of_length_le (by omega), List.take_of_length_le h]
  · rw [Nat.min_eq_left (by omega)]
theorem cutL1 {cs : List Nm} (h : 1 ≤ cs.length) : cutA cs (some (-1)) none = cs.drop (cs.length - 1) := by
  unfold cutA
  have e : HT.sIx cs.length 0 (some (-1)) = cs.length - 1 := by unfold HT.sIx; simp; omega
  have e2 : HT.sIx cs.length cs.length none = cs.length := rfl
  rw [e, e2]
  rw [List.take_of_length_le (by rw [List.length_drop]; omega)]
theorem cutR1 {cs : List Nm} (h : 1 ≤ cs.length) : cutA cs none (some (-1)) = cs.take (cs.length - 1) := by
  unfold cutA
  have e : HT.sIx cs.length cs.length (some (-1)) = cs.length - 1 := by unfold HT.sIx; simp; omega
  rw [show HT.sIx cs.length 0 none = 0 from rfl, e]; rfl
theorem rule_ok (ns : List Int) (k : Int) (hk : 0 ≤ k ∧ k ≤ 90000) {cs ps os : List Nm} (h0 : 1 ≤ cs.length) (hn : cs.Nodup) (hl : cs.length ≤ 1000) : Ok (n_law_rule ns k cs ps os) fun d => ∃ r : Rl, d = r.d ∧ r.In cs ps os := by
  unfold n_law_rule
  refine ok_bind (draw_ok ns k 9 (by omega) (by omega)) fun d _ => ?_
  refine pick_ok ns (k + 1) (by omega) h0 fun x c hc => ?_
  refine ok_dite (fun _ => ok_some ⟨.pay c, rfl, hc⟩) (fun _ => ?_)
  refine ok_bind (Q := fun b => b = true → 1 < cs.length) ?_ fun b hb => ?_
  · refine ok_dite (fun _ => ?_) (fun _ => ok_some (fun h => nomatch h))
    refine ok_bind (Q := fun b => b = true → 1 < cs.length) ?_ fun b hb => ok_some hb
    refine ok_dite (fun h => ?_) (fun _ => ok_some (fun h => nomatch h))
    exact ok_bind (draw_ok ns (k + 2) 2 (by omega) (by omega)) fun y _ => ok_some fun _ => by omega
  refine ok_ite (fun hb' => ?_) (fun _ => ?_)
  · have hl := hb hb'
    refine ok_some ⟨.share (cutA cs none (some 2)), rfl, fun c hc => cutA_mem hc, ?_, ?_⟩
    · rw [cut2]; exact hn.sublist (List.take_sublist _ _)
    · rw [cut2, List.length_take]; omega
  refine ok_ite (fun hb' => ?_) (fun _ => ?_)
  · have hl2 : 1 < cs.length := by
      have := (Bool.and_eq_true _ _ ▸ hb').2
      have := of_decide_eq_true this
      omega
    have l1 := cutA_len cs (some (-1)) none
    have l2 := cutA_len cs none (some (-1))
    refine ok_eq (catL_eq (by omega)) ?_
    refine ok_some ⟨.share (cutA cs (some (-1)) none ++ cutA cs none (some (-1))), rfl, fun c hc => (List.mem_append.mp hc).elim cutA_mem cutA_mem, ?_, ?_⟩
    · rw [cutL1 (by omega), cutR1 (by omega)]
      have := List.take_append_drop (cs.length - 1) cs
      refine (List.perm_append_comm.nodup_iff).mp ?_
      rw [this]; exact hn
    · rw [cutL1 (by omega), cutR1 (by omega), List.length_append, List.length_drop, List.length_take]; omega
  refine ok_dite (fun _ => ok_some ⟨.repay c, rfl, hc⟩) (fun _ => ?_)
  refine ok_ite (fun hb' => ?_) (fun _ => ?_)
  · have hp := of_decide_eq_true (Bool.and_eq_true _ _ ▸ hb').2
    exact pick_ok ns (k + 2) (by omega) (by omega) fun x p hp => ok_some ⟨.fill p, rfl, hp⟩
  refine ok_ite (fun hb' => ?_) (fun _ => ok_some ⟨.pay c, rfl, hc⟩)
  have ho := of_decide_eq_true (Bool.and_eq_true _ _ ▸ hb').2
  refine pick_ok ns (k + 2) (by omega) (by omega) fun x o ho => ?_
  refine ok_dite (fun _ => ok_some ⟨.back o, rfl, ho⟩) (fun _ => ?_)
  exact ok_bind (coins_ok ns (k + 3) (by omega)) fun y hy => ok_some ⟨.lend o y, rfl, ho, hy.1, hy.2⟩

-- claims that no share and no repay names
def Rl.held : Rl → List Nm
  | .share cs => cs
  | .repay c => [c]
  | _ => []
-- orders
abbrev TO : Type := Nm × List TSI × List Rl
def TO.d (o : TO) : R2 := (o.1, o.2.1, o.2.2.map Rl.d)
def TO.held (o : TO) : List Nm := o.2.2.flatMap Rl.held
structure TOk (cs ps os : List Nm) (o : TO) : Prop where
  parts : ∀ p ∈ o.2.1, p.1 ∈ cs ∧ 1 ≤ p.2 ∧ p.2 ≤ 10
  sub : (o.2.1.map (·.1)).Sublist cs
  rules : ∃ (rs : List Rl) (c : Nm), o.2.2 = rs ++ [Rl.rest c] ∧ (∀ r ∈ rs, r.In cs ps os) ∧ c ∈ cs ∧ rs.length ≤ 5
theorem order_ok (ns : List Int) (k : Int) (hk : 0 ≤ k ∧ k ≤ 80000) (n : Nm) {cs ps os : List Nm} (h0 : 1 ≤ cs.length) (hn : cs.Nodup) (hl : cs.length ≤ 1000) :
    Ok (n_law_order ns k n cs ps os) fun o => ∃ t : TO, o = t.d ∧ t.1 = n ∧ TOk cs ps os t := by
  unfold n_law_order
  have hlen := enumN_len 0 cs
  refine ok_bind (ok_fold0 (I := fun done pts => (∀ p ∈ pts, p.1 ∈ cs ∧ 1 ≤ p.2 ∧ p.2 ≤ 10) ∧ pts.length ≤ done.length ∧ (pts.map (·.1)).Sublist (done.map (·.2))) ⟨by simp, by simp, by simp⟩ fun pre x post pts hp hi => ?_) fun pts hpts => ?_
  · have hm := enumN_mem (k := 0) (xs := cs) (p := x) (by rw [hp]; simp)
    have hpl : pre.length < cs.length := by
      have := congrArg List.length hp
      simp at this; omega
    refine ok_bind (draw_ok ns (k + x.1) 4 (by omega) (by omega)) fun d _ => ?_
    refine ok_dite (fun _ => ?_) (fun _ => ok_some ⟨hi.1, by rw [List.length_append]; omega, by rw [List.map_append]; exact hi.2.2.trans (List.sublist_append_left _ _)⟩)
    refine ok_bind (draw_ok ns (k + 5 + x.1) 10 (by omega) (by omega)) fun y hy => ?_
    refine ok_eq (push_eq (by omega)) (ok_some ⟨fun p hp => ?_, by simp; omega, ?_⟩)
    · rcases List.mem_append.mp hp with hp | hp
      · exact hi.1 p hp
      · rw [List.mem_singleton.mp hp]; exact ⟨hm.2.2, by show 1 ≤ 1 + y; omega, by show 1 + y ≤ 10; omega⟩
    · rw [List.map_append, List.map_append]; exact hi.2.2.append (List.Sublist.refl _)
  refine ok_bind (draw_ok ns (k + 8) 6 (by omega) (by omega)) fun m hm => ?_
  refine ok_eq (rng1_eq (by omega) (by omega)) ?_
  refine ok_bind (ok_fold0 (I := fun done ds => ∃ rs : List Rl, ds = rs.map Rl.d ∧ (∀ r ∈ rs, r.In cs ps os) ∧ rs.length = done.length) ⟨[], rfl, by simp, rfl⟩ fun pre x post ds hp hi => ?_) fun ds hds => ?_
  · obtain ⟨rs, rfl, h1, h2⟩ := hi
    have hx := rngN_mem (lo := 0) (n := m.toNat) (i := x) (by rw [hp]; simp)
    have hpl : pre.length < 6 := by
      have := congrArg List.length hp
      rw [rngN_len] at this
      simp at this; omega
    refine ok_bind (rule_ok ns (k + 10 + 5 * x) (by omega) h0 hn hl) fun d hd => ?_
    obtain ⟨r, rfl, hr⟩ := hd
    refine ok_eq (push_eq (by rw [List.length_map]; omega)) (ok_some ⟨rs ++ [r], by simp, fun z hz => ?_, by simp [h2]⟩)
    rcases List.mem_append.mp hz with hz | hz
    · exact h1 z hz
    · rw [List.mem_singleton.mp hz]; exact hr
  obtain ⟨rs, rfl, h1, h2⟩ := hds
  rw [rngN_len] at h2
  refine pick_ok ns (k + 9) (by omega) h0 fun x c hc => ?_
  refine ok_eq (catL_eq (by rw [List.length_map]; simp; omega)) (ok_some ⟨(n, pts, rs ++ [Rl.rest c]), ?_, rfl, hpts.1, ?_, rs, c, rfl, h1, hc, by omega⟩)
  · show _ = (n, pts, (rs ++ [Rl.rest c]).map Rl.d)
    rw [List.map_append]; rfl
  have := hpts.2.2
  rw [enumN_snd] at this
  exact this
theorem some_ok (ns : List Int) (k : Int) (hk : 0 ≤ k ∧ k ≤ 80000) (xs : List Nm) (hl : xs.length ≤ 1000) (hn : xs.Nodup) : Ok (n_law_some ns k xs) fun ys => ys.Nodup ∧ (∀ y ∈ ys, y ∈ xs) ∧ ys.length ≤ xs.length := by
  unfold n_law_some
  refine ok_bind (ok_fold0 (I := fun done ys => ys.Sublist (done.map (·.2))) (by simp) fun pre x post ys hp hi => ?_) fun ys hys => ?_
  · have hm := enumN_mem (k := 0) (xs := xs) (p := x) (by rw [hp]; simp)
    have hpl : pre.length < xs.length := by
      have := congrArg List.length hp
      rw [enumN_len] at this
      simp at this; omega
    have hyl := hi.length_le
    rw [List.length_map] at hyl
    refine ok_bind (draw_ok ns (k + x.1) 3 (by omega) (by omega)) fun d _ => ?_
    refine ok_dite (fun _ => ?_) (fun _ => ok_some (by rw [List.map_append]; exact hi.trans (List.sublist_append_left _ _)))
    exact ok_eq (push_eq (by omega)) (ok_some (by rw [List.map_append]; exact hi.append (List.Sublist.refl _)))
  rw [enumN_snd] at hys
  refine ok_bind (draw_ok ns (k + 9) 2 (by omega) (by omega)) fun d _ => ?_
  refine ok_bind (Q := fun zs => zs.Nodup ∧ (∀ y ∈ zs, y ∈ xs) ∧ zs.length ≤ xs.length) ?_ fun zs hz => ok_some hz
  have h1 : ys.Nodup := hn.sublist hys
  refine ok_dite (fun _ => ok_some ⟨?_, fun y hy => hys.subset (List.mem_reverse.mp hy), ?_⟩) (fun _ => ok_some ⟨h1, fun y hy => hys.subset hy, hys.length_le⟩)
  · exact List.pairwise_reverse.mpr (List.Pairwise.imp (fun h => Ne.symm h) h1)
  · rw [List.length_reverse]; exact hys.length_le
theorem ixD_0 (r : Rl) : ∃ w : Nm, ixD r.d 0 = some (eS w) ∧ (w = cod "share" ↔ ∃ cs, r = .share cs) ∧ (w = cod "repay" ↔ ∃ c, r = .repay c) := by
  cases r with
  | pay c => exact ⟨cod "pay", rfl, ⟨fun h => absurd h (by decide), fun ⟨_, h⟩ => nomatch h⟩, ⟨fun h => absurd h (by decide), fun ⟨_, h⟩ => nomatch h⟩⟩
  | share cs => exact ⟨cod "share", rfl, ⟨fun _ => ⟨_, rfl⟩, fun _ => rfl⟩, ⟨fun h => absurd h (by decide), fun ⟨_, h⟩ => nomatch h⟩⟩
  | repay c => exact ⟨cod "repay", rfl, ⟨fun h => absurd h (by decide), fun ⟨_, h⟩ => nomatch h⟩, ⟨fun _ => ⟨_, rfl⟩, fun _ => rfl⟩⟩
  | fill c => exact ⟨cod "fill", rfl, ⟨fun h => absurd h (by decide), fun ⟨_, h⟩ => nomatch h⟩, ⟨fun h => absurd h (by decide), fun ⟨_, h⟩ => nomatch h⟩⟩
  | lend c x => exact ⟨cod "lend", rfl, ⟨fun h => absurd h (by decide), fun ⟨_, h⟩ => nomatch h⟩, ⟨fun h => absurd h (by decide), fun ⟨_, h⟩ => nomatch h⟩⟩
  | back c => exact ⟨cod "back", rfl, ⟨fun h => absurd h (by decide), fun ⟨_, h⟩ => nomatch h⟩, ⟨fun h => absurd h (by decide), fun ⟨_, h⟩ => nomatch h⟩⟩
  | rest c => exact ⟨cod "rest", rfl, ⟨fun h => absurd h (by decide), fun ⟨_, h⟩ => nomatch h⟩, ⟨fun h => absurd h (by decide), fun ⟨_, h⟩ => nomatch h⟩⟩
theorem TOk.all {cs ps os : List Nm} {o : TO} (h : TOk cs ps os o) : (∀ r ∈ o.2.2, r.In cs ps os ∨ ∃ c ∈ cs, r = .rest c) ∧ o.2.2.length ≤ 6 := by
  obtain ⟨rs, c, e, h1, h2, h3⟩ := h.rules
  rw [e]
  refine ⟨fun r hr => ?_, by simp; omega⟩
  rcases List.mem_append.mp hr with hr | hr
  · exact .inl (h1 r hr)
  · exact .inr ⟨c, h2, List.mem_singleton.mp hr⟩
theorem held_len {cs ps os : List Nm} {r : Rl} (hl : cs.length ≤ 1000) (h : r.In cs ps os ∨ ∃ c ∈ cs, r = .rest c) : r.held.length ≤ 1000 := by
  rcases h with h | ⟨c, _, rfl⟩
  · cases r with
    | share l =>
      have : ∀ (l cs : List Nm), l.Nodup → (∀ c ∈ l, c ∈ cs) → l.length ≤ cs.length := fun l => by
        induction l with
        | nil => intro cs _ _; simp
        | cons x l ih =>
          intro cs hn hs
          have hx := hs x (by simp)
          have := ih (cs.erase x) (List.nodup_cons.mp hn).2 (fun c hc => by
            have hne : c ≠ x := fun e => (List.nodup_cons.mp hn).1 (e ▸ hc)
            exact (List.mem_erase_of_ne hne).mpr (hs c (by simp [hc])))
          rw [List.length_erase_of_mem hx] at this
          have : 1 ≤ cs.length := List.length_pos_of_mem hx
          rw [List.length_cons]; omega
      exact Nat.le_trans (this l cs h.2.1 h.1) hl
    | repay c => simp [Rl.held]
    | _ => simp [Rl.held]
  · simp [Rl.held]
def freeStep (x8 : D) (s7 : List D) : Option (List D) :=
  (ixD x8 (0 : Int)).bind fun x10 =>
  (eqQ (eD x10) (eS (cod "share"))).bind fun x11 =>
  ((if x11 = true then
  ((ixD x8 (1 : Int)).bind fun x12 =>
  (itemsT (.p x12)).bind fun x13 =>
  (catL s7 x13).bind fun x14 =>
  some x14)
  else (some s7)) : Option ((List D))).bind fun s15 =>
  (ixD x8 (0 : Int)).bind fun x16 =>
  (eqQ (eD x16) (eS (cod "repay"))).bind fun x17 =>
  (if x17 = true then
  ((ixD x8 (1 : Int)).bind fun x18 =>
  (push s15 x18).bind fun x19 =>
  some x19)
  else (some s15))
theorem eqQ_f {a b : Nm} (h : ¬ a = b) : eqQ (eS a) (eS b) = some false := by rw [eqQ_g, decide_eq_false h]
theorem eqQ_t {a : Nm} : eqQ (eS a) (eS a) = some true := by rw [eqQ_g, decide_eq_true rfl]
theorem free_step (r : Rl) (ls : List Nm) (h1 : ls.length ≤ 8000000) (h2 : r.held.length ≤ 1000) : freeStep r.d (ls.map eS) = some ((ls ++ r.held).map eS) := by
  have hn : ∀ (w : Nm) (x : D), ¬ w = cod "share" → ¬ w = cod "repay" → freeStep (.tup [eS w, x]) (ls.map eS) = some (ls.map eS) := fun w x ha hb => by
    show Option.bind (some _) _ = _
    rw [bindS, eqQ_f ha, bindS]
    show Option.bind (some _) _ = _
    rw [bindS]
    show Option.bind (some _) _ = _
    rw [bindS, eqQ_f hb, bindS]; rfl
  cases r with
  | pay c => rw [show (Rl.pay c).held = [] from rfl, List.append_nil]; exact hn (cod "pay") _ (by decide) (by decide)
  | fill c => rw [show (Rl.fill c).held = [] from rfl, List.append_nil]; exact hn (cod "fill") _ (by decide) (by decide)
  | back c => rw [show (Rl.back c).held = [] from rfl, List.append_nil]; exact hn (cod "back") _ (by decide) (by decide)
  | rest c => rw [show (Rl.rest c).held = [] from rfl, List.append_nil]; exact hn (cod "rest") _ (by decide) (by decide)
  | lend c x =>
    rw [show (Rl.lend c x).held = [] from rfl, List.append_nil]
    show Option.bind (some _) _ = _
    rw [bindS, eqQ_f (show ¬ cod "lend" = cod "share" by decide), bindS]
    show Option.bind (some _) _ = _
    rw [bindS]
    show Option.bind (some _) _ = _
    rw [bindS, eqQ_f (show ¬ cod "lend" = cod "repay" by decide), bindS]; rfl
  | share l =>
    have h2 : l.length ≤ 1000 := h2
    have e0 : ixD (Rl.share l).d 0 = some (eS (cod "share")) := rfl
    have e1 : ixD (Rl.share l).d 1 = some (eSq eS l) := rfl
    have e2 : itemsT (.p (eSq eS l)) = some (l.map eS) := rfl
    unfold freeStep
    rw [e0, bindS, eqQ_t, bindS, if_pos rfl, e1, bindS, e2, bindS, catL_eq (by rw [List.length_map, List.length_map]; omega), bindS, bindS, bindS, eqQ_f (show ¬ cod "share" = cod "repay" by decide), bindS, if_neg (by simp), List.map_append]; rfl
  | repay c =>
    have e0 : ixD (Rl.repay c).d 0 = some (eS (cod "repay")) := rfl
    have e1 : ixD (Rl.repay c).d 1 = some (eS c) := rfl
    unfold freeStep
    rw [e0, bindS, eqQ_f (show ¬ cod "repay" = cod "share" by decide), bindS, if_neg (by simp), bindS, bindS, eqQ_t, bindS, if_pos rfl, e1, bindS, push_eq (by rw [List.length_map]; omega), bindS, List.map_append]; rfl
theorem free_fold : ∀ (rs : List Rl) (ls : List Nm) (b : Nat), ls.length + 1000 * rs.length ≤ b → b ≤ 8000000 → (∀ r ∈ rs, r.held.length ≤ 1000) → fold freeStep (rs.map Rl.d) (ls.map eS) = some ((ls ++ rs.flatMap Rl.held).map eS)
  | [], ls, b, _, _, _ => by simp [fold]
  | r :: rs, ls, b, h1, h2, h3 => by
    rw [List.length_cons] at h1
    have hr := h3 r (by simp)
    rw [List.map_cons]
    show (freeStep r.d (ls.map eS)).bind _ = _
    rw [free_step r ls (by omega) hr, bindS, free_fold rs (ls ++ r.held) b (by rw [List.length_append]; omega) h2 fun x hx => h3 x (by simp [hx])]
    simp
theorem inQ_w (c : Nm) (ls : List Nm) : inQ (eS c) (eLs eD (ls.map eS)) = some (decide (c ∈ ls)) := by
  show inQ (eS c) (.lst ((ls.map eS).map eD)) = _
  rw [show (eD : D → D) = id from rfl, List.map_id]
  exact g_inL c ls
theorem free_ok (orders : List TO) (cs ps os : List Nm) (hl : cs.length ≤ 1000) (ho : orders.length ≤ 10) (h : ∀ o ∈ orders, TOk cs ps os o) :
    n_law_free (orders.map TO.d) cs = some (cs.filter fun c => !decide (c ∈ orders.flatMap TO.held)) := by
  have go : ∀ (os2 : List TO) (ls : List Nm) (b : Nat), ls.length + 10000 * os2.length ≤ b → b ≤ 7000000 → (∀ o ∈ os2, TOk cs ps os o) → fold (fun (x2 : R2) (s1 : List D) => (fold freeStep x2.2.2 s1).bind fun s20 => some s20) (os2.map TO.d) (ls.map eS) = some ((ls ++ os2.flatMap TO.held).map eS) := by
    intro os2
    induction os2 with
    | nil => intro ls b _ _ _; simp [fold]
    | cons o os2 ih =>
      intro ls b h1 h2 h3
      rw [List.length_cons] at h1
      obtain ⟨e2, e3⟩ := (h3 o (by simp)).all
      have hh : ∀ r ∈ o.2.2, r.held.length ≤ 1000 := fun r hr => held_len hl (e2 r hr)
      have hlen : o.held.length ≤ 6000 := by
        have : ∀ rs : List Rl, (∀ r ∈ rs, r.held.length ≤ 1000) → (rs.flatMap Rl.held).length ≤ 1000 * rs.length := fun rs => by
          induction rs with
          | nil => intro _; simp
          | cons r rs ih =>
            intro hr
            have a := hr r (by simp)
            have b := ih fun x hx => hr x (by simp [hx])
            rw [List.flatMap_cons, List.length_append, List.length_cons]; omega
        have := this _ hh
        show (o.2.2.flatMap Rl.held).length ≤ 6000
        omega
      show Option.bind ((fold freeStep (o.2.2.map Rl.d) (ls.map eS)).bind _) _ = _
      rw [free_fold o.2.2 ls 8000000 (by omega) (by omega) hh, bindS, bindS]
      show fold _ (os2.map TO.d) ((ls ++ o.held).map eS) = _
      rw [ih (ls ++ o.held) b (by rw [List.length_append]; omega) h2 fun x hx => h3 x (by simp [hx])]
      simp
  have hf := go orders [] 100000 (by simp; omega) (by omega) h
  rw [List.nil_append] at hf
  show Option.bind (fold (fun (x2 : R2) (s1 : List D) => (fold freeStep x2.2.2 s1).bind fun s20 => some s20) (orders.map TO.d) ([] : List D)) _ = _
  rw [show ([] : List D) = ([] : List Nm).map eS from rfl, hf, bindS]
  rw [compG_eq (p := fun c => !decide (c ∈ orders.flatMap TO.held)) (g := fun c => c) (by omega) (fun c hc => by rw [inQ_w, bindS]; split <;> rfl), bindS, List.map_id']
-- pools
abbrev TP : Type := Nm × (List TSII) × (List TSI) × (List Nm) × (List TO) × (List TSIS) × (List TSS)
def TP.d (p : TP) : R3 := (p.1, p.2.1, p.2.2.1, p.2.2.2.1, p.2.2.2.2.1.map TO.d, p.2.2.2.2.2.1, p.2.2.2.2.2.2)
def onames : List Nm := [cod "bb", cod "ck", cod "dd"]
structure PoolOk (cs ps os : List Nm) (p : TP) : Prop where
  claims : p.2.1.map (·.1) = cs
  sizes : ∀ c ∈ p.2.1, (1 ≤ c.2.1 ∧ c.2.1 ≤ 1000000000000) ∧ 1 ≤ c.2.2 ∧ c.2.2 ≤ 1000000000000
  pots : p.2.2.1.map (·.1) = ps
  marks : ∀ c ∈ p.2.2.1, 1 ≤ c.2 ∧ c.2 ≤ 1000000000000
  eat : p.2.2.2.1.Nodup ∧ ∀ c ∈ p.2.2.2.1, c ∈ cs
  orders : ∀ o ∈ p.2.2.2.2.1, TOk cs ps os o
  onames : ∃ k, 1 ≤ k ∧ k ≤ 3 ∧ p.2.2.2.2.1.map (·.1) = onames.take k
  looks : ∀ l ∈ p.2.2.2.2.2.1, l.1 ∈ cs ∧ (1 ≤ l.2.1 ∧ l.2.1 ≤ 3) ∧ l.2.2 ∈ p.2.2.2.2.1.map (·.1)
  lookn : p.2.2.2.2.2.1.length ≤ 2
  guards : ∀ g ∈ p.2.2.2.2.2.2, g.1 ∈ ps ∧ g.2 ∈ cs ∧ g.2 ∉ p.2.2.2.2.1.flatMap TO.held
  guardn : (p.2.2.2.2.2.2.map (·.2)).Nodup ∧ p.2.2.2.2.2.2.length ≤ 3
theorem cutTake {α : Type} {xs : List α} {k : Int} (h : 0 ≤ k) : cutA xs none (some k) = xs.take k.toNat := by
  unfold cutA
  rw [show HT.sIx xs.length 0 none = 0 from rfl, sIx_i h, List.drop_zero, Nat.sub_zero]
  by_cases h : xs.length ≤ k.toNat
  · rw [Nat.min_eq_right h, List.take_of_length_le (by omega), List.take_of_length_le h]
  · rw [Nat.min_eq_left (by omega)]
theorem pool_ok (ns : List Int) (k : Int) (hk : 0 ≤ k ∧ k ≤ 70000) (n : Nm) {cs ps os : List Nm} (h0 : 1 ≤ cs.length) (hn : cs.Nodup) (hl : cs.length ≤ 3) (hp : ps.length ≤ 2) :
    Ok (n_law_pool ns k n cs ps os) fun p => ∃ t : TP, p = t.d ∧ t.1 = n ∧ PoolOk cs ps os t := by
  unfold n_law_pool
  refine ok_bind (ok_fold0 (I := fun done xs => xs.map (·.1) = done.map (·.2) ∧ ∀ c ∈ xs, (1 ≤ c.2.1 ∧ c.2.1 ≤ 1000000000000) ∧ 1 ≤ c.2.2 ∧ c.2.2 ≤ 1000000000000) ⟨rfl, by simp⟩ fun pre x post xs hp hi => ?_) fun told htold => ?_
  · have hm := enumN_mem (k := 0) (xs := cs) (p := x) (by rw [hp]; simp)
    have hxl : xs.length < 4 := by
      have := congrArg List.length hp
      rw [enumN_len] at this
      have h2 := congrArg List.length hi.1
      simp at this h2; omega
    refine ok_bind (coins_ok ns (k + 20 + x.1) (by omega)) fun y hy => ?_
    refine ok_bind (coins_ok ns (k + 24 + x.1) (by omega)) fun z hz => ?_
    refine ok_eq (push_eq (by omega)) (ok_some ⟨by rw [List.map_append, List.map_append, hi.1]; rfl, fun c hc => ?_⟩)
    rcases List.mem_append.mp hc with hc | hc
    · exact hi.2 c hc
    · rw [List.mem_singleton.mp hc]; exact ⟨hy, hz⟩
  rw [enumN_snd] at htold
  refine ok_bind (draw_ok ns (k + 1) 3 (by omega) (by omega)) fun d hd => ?_
  have hcut : cutA [cod "bb", cod "ck", cod "dd"] none (some (1 + d)) = onames.take (1 + d).toNat := cutTake (by omega)
  rw [hcut]
  have hcl : (onames.take (1 + d).toNat).length = (1 + d).toNat := by rw [List.length_take]; show min _ 3 = _; omega
  refine ok_bind (ok_fold0 (I := fun done xs => ∃ ts : List TO, xs = ts.map TO.d ∧ ts.map (·.1) = done.map (·.2) ∧ ∀ o ∈ ts, TOk cs ps os o) ⟨[], rfl, rfl, by simp⟩ fun pre x post xs hp hi => ?_) fun orders horders => ?_
  · obtain ⟨ts, rfl, h1, h2⟩ := hi
    have hm := enumN_mem (k := 0) (xs := onames.take (1 + d).toNat) (p := x) (by rw [hp]; simp)
    have hxl : ts.length < 4 := by
      have := congrArg List.length hp
      rw [enumN_len, hcl] at this
      have h2 := congrArg List.length h1
      simp at this h2; omega
    rw [hcl] at hm
    refine ok_bind (order_ok ns (k + 60 * x.1 + 30) (by omega) x.2 h0 hn (by omega)) fun o ho => ?_
    obtain ⟨t, rfl, e, ht⟩ := ho
    refine ok_eq (push_eq (by rw [List.length_map]; omega)) (ok_some ⟨ts ++ [t], by simp, by rw [List.map_append, List.map_append, h1, List.map_singleton, e]; rfl, fun c hc => ?_⟩)
    rcases List.mem_append.mp hc with hc | hc
    · exact h2 c hc
    · rw [List.mem_singleton.mp hc]; exact ht
  obtain ⟨ts, rfl, ho1, ho2⟩ := horders
  rw [enumN_snd] at ho1
  have htl : ts.length ≤ 3 := by
    have := congrArg List.length ho1
    rw [hcl, List.length_map] at this
    omega
  refine ok_bind (draw_ok ns (k + 2) 3 (by omega) (by omega)) fun m hm => ?_
  refine ok_eq (rng1_eq (by omega) (by omega)) ?_
  refine ok_bind (ok_fold0 (I := fun done ls => ls.length = done.length ∧ ∀ l ∈ ls, l.1 ∈ cs ∧ (1 ≤ l.2.1 ∧ l.2.1 ≤ 3) ∧ l.2.2 ∈ onames.take (1 + d).toNat) ⟨rfl, by simp⟩ fun pre x post ls hp hi => ?_) fun looks hlooks => ?_
  · have hx := rngN_mem (lo := 0) (n := m.toNat) (i := x) (by rw [hp]; simp)
    have hpl : pre.length < 3 := by
      have := congrArg List.length hp
      rw [rngN_len] at this
      simp at this; omega
    refine pick_ok ns (k + 3 + x) (by omega) h0 fun _ c hc => ?_
    refine pick_ok ns (k + 5 + x) (by omega) (by rw [hcl]; omega) fun _ o ho => ?_
    refine ok_bind (draw_ok ns (k + 7 + x) 3 (by omega) (by omega)) fun y hy => ?_
    refine ok_eq (push_eq (by omega)) (ok_some ⟨by simp [hi.1], fun l hl => ?_⟩)
    rcases List.mem_append.mp hl with hl | hl
    · exact hi.2 l hl
    · rw [List.mem_singleton.mp hl]; exact ⟨hc, ⟨by show 1 ≤ 1 + y; omega, by show 1 + y ≤ 3; omega⟩, ho⟩
  rw [rngN_len] at hlooks
  rw [free_ok ts cs ps os (by omega) (by omega) ho2, bindS]
  refine ok_bind (draw_ok ns (k + 10) 4 (by omega) (by omega)) fun g hg => ?_
  rw [cutTake (by omega)]
  refine ok_bind (ok_fold0 (I := fun done gs => (gs.map (·.2)).Sublist (done.map (·.2)) ∧ ∀ g ∈ gs, g.1 ∈ ps ∧ g.2 ∈ done.map (·.2)) ⟨by simp, by simp⟩ fun pre x post gs hp hi => ?_) fun guards hguards => ?_
  · have hm := enumN_mem (p := x) (by rw [hp]; simp)
    have hpl : gs.length < 4 := by
      have h2 := hi.1.length_le
      have := congrArg List.length hp
      rw [enumN_len, List.length_take] at this
      simp at this h2; omega
    have hm1 : x.1 < 4 := by
      have := hm.2.1
      rw [List.length_take] at this
      omega
    refine ok_dite (fun h => ?_) (fun h => ok_some ⟨by rw [List.map_append]; exact hi.1.trans (List.sublist_append_left _ _), fun g hg => ⟨(hi.2 g hg).1, by rw [List.map_append]; exact List.mem_append_left _ (hi.2 g hg).2⟩⟩)
    refine pick_ok ns (k + 11 + x.1) (by omega) (by omega) fun _ p hp2 => ?_
    refine ok_eq (push_eq (by omega)) (ok_some ⟨by rw [List.map_append, List.map_append]; exact hi.1.append (List.Sublist.refl _), fun g hg => ?_⟩)
    rcases List.mem_append.mp hg with hg | hg
    · exact ⟨(hi.2 g hg).1, by rw [List.map_append]; exact List.mem_append_left _ (hi.2 g hg).2⟩
    · rw [List.mem_singleton.mp hg]; exact ⟨hp2, by simp⟩
  rw [enumN_snd] at hguards
  refine ok_bind (o := compO _ _) (Q := fun ms => ms.map (·.1) = ps ∧ ∀ c ∈ ms, 1 ≤ c.2 ∧ c.2 ≤ 1000000000000) ?_ fun marks hmarks => ?_
  · have go : ∀ (j : Nat) (qs : List Nm), j + qs.length ≤ 100 → Ok (mapO (fun (x41 : TIS) => (n_law_coins ns ((k + 16) + x41.1)).bind fun x42 => some (x41.2, x42)) (enumN j qs)) fun ms => ms.map (·.1) = qs ∧ ∀ c ∈ ms, 1 ≤ c.2 ∧ c.2 ≤ 1000000000000 := by
      intro j qs
      induction qs generalizing j with
      | nil => intro _; exact ok_some ⟨rfl, by simp⟩
      | cons q qs ih =>
        intro hj
        rw [List.length_cons] at hj
        obtain ⟨y, hy, hy2⟩ := coins_ok ns (k + 16 + (j : Int)) (by omega)
        show Ok (Option.bind (Option.bind _ _) _) _
        rw [hy, bindS, bindS]
        obtain ⟨ms, h1, h2, h3⟩ := ih (j + 1) (by omega)
        rw [h1]
        refine ok_some ⟨by rw [List.map_cons, h2], fun c hc => ?_⟩
        rcases List.mem_cons.mp hc with rfl | hc
        · exact hy2
        · exact h3 c hc
    unfold compO
    rw [if_pos (by rw [enumN_len]; omega)]
    exact go 0 ps (by omega)
  refine ok_bind (some_ok ns (k + 13) (by omega) cs (by omega) hn) fun eat heat => ok_some ⟨(n, told, marks, eat, ts, looks, guards), rfl, rfl, ?_⟩
  have hfree : (cs.filter fun c => !decide (c ∈ ts.flatMap TO.held)).Nodup := hn.sublist (List.filter_sublist)
  refine ⟨htold.1, htold.2, hmarks.1, hmarks.2, ⟨heat.1, heat.2.1⟩, ho2, ⟨(1 + d).toNat, by omega, by omega, ho1⟩, fun l hl => ⟨(hlooks.2 l hl).1, (hlooks.2 l hl).2.1, ?_⟩, by show looks.length ≤ 2; omega, fun gg hgg => ?_, ?_, ?_⟩
  · show l.2.2 ∈ ts.map (·.1)
    rw [ho1]; exact (hlooks.2 l hl).2.2
  · obtain ⟨q1, q2⟩ := hguards.2 gg hgg
    have q3 := List.mem_filter.mp (List.mem_of_mem_take q2)
    refine ⟨q1, q3.1, ?_⟩
    have := q3.2
    simpa using this
  · exact (hfree.sublist (List.take_sublist _ _)).sublist hguards.1
  · have := hguards.1.length_le
    rw [List.length_take, List.length_map] at this
    show guards.length ≤ 3
    omega
end DK

set_option Elab.async false
set_option linter.all false
set_option maxRecDepth 100000
set_option maxHeartbeats 1000000
namespace DK
open PySem PySem.Spec PyProof.Rows L2 DL
theorem cutMid {α : Type} {xs : List α} {a b : Int} (h0 : 0 ≤ a) (h1 : a ≤ b) (h2 : b ≤ xs.length) : cutA xs (some a) (some b) = (xs.drop a.toNat).take (b.toNat - a.toNat) := by
  unfold cutA
  rw [sIx_i h0, sIx_i (by omega), Nat.min_eq_left (by omega), Nat.min_eq_left (by omega)]
theorem getD_of {α : Type} {xs : List α} {i : Int} (d : α) (h0 : 0 ≤ i) (h1 : i < xs.length) : atI xs i = some (xs.getD i.toNat d) := by
  obtain ⟨x, _, e, e2⟩ := atI_in h0 h1
  rw [e, List.getD_eq_getElem?_getD, e2]; rfl
/-- a deal as drawn -/
def claimsAt (N : List Nm) (k c : Nat) : List Nm := (N.drop (3 + 4 * k)).take c
def potsAt (N : List Nm) (k p : Nat) : List Nm := [N.getD (6 + 4 * k) [], N.getD (6 + 4 * k) [] ++ cod "h"].take p
def othersAt (N : List Nm) (k m : Nat) : List Nm := (N.take m).filter fun x => !decide (x = N.getD k [])
structure PoolAt (N : List Nm) (m k : Nat) (t : TP) : Prop where
  name : t.1 = N.getD k []
  ok : ∃ c p, 1 ≤ c ∧ c ≤ 3 ∧ p ≤ 2 ∧ PoolOk (claimsAt N k c) (potsAt N k p) (othersAt N k m) t
structure DealOk (most : Nat) (ts : List TP) : Prop where
  names : ∃ N : List Nm, N.Nodup ∧ N.length = 16 ∧ (∀ n ∈ N, Low n) ∧ 1 ≤ ts.length ∧ ts.length ≤ most ∧ ∀ k t, ts[k]? = some t → PoolAt N ts.length k t
theorem deal_ok (ns : List Int) (most : Int) (hm : 1 ≤ most ∧ most ≤ 3) : Ok (n_law_deal ns most) fun d => ∃ ts : List TP, d = ts.map TP.d ∧ DealOk most.toNat ts := by
  unfold n_law_deal
  obtain ⟨A, B, f, lA, lB, lc, hN⟩ := names_ok ns
  rw [hN, bindS]
  have hlen := namesK_len A B f
  have hnd := namesK_nodup A B f
  have hlow := namesK_low (f := f) lA lB lc
  generalize namesK A B f = N at *
  refine ok_bind (draw_ok ns 904 most (by omega) (by omega)) fun d hd => ?_
  refine ok_eq (rng1_eq (by omega) (by omega)) ?_
  refine ok_bind (ok_fold0 (I := fun done xs => ∃ ts : List TP, xs = ts.map TP.d ∧ ts.length = done.length ∧ ∀ k t, ts[k]? = some t → PoolAt N (1 + d).toNat k t) ⟨[], rfl, rfl, by simp⟩ fun pre x post xs hp hi => ?_) fun deal hdeal => ?_
  · obtain ⟨ts, rfl, h1, h2⟩ := hi
    have hplen : pre.length + (post.length + 1) = (1 + d).toNat := by
      have := congrArg List.length hp
      rw [rngN_len, List.length_append, List.length_cons] at this
      omega
    have hx : x = (pre.length : Int) := by
      have e := congrArg (fun l => l[pre.length]?) hp
      unfold rngN at e
      simp only [List.getElem?_append_right (Nat.le_refl _), Nat.sub_self, List.getElem?_cons_zero] at e
      rw [List.getElem?_map, List.getElem?_range (by omega)] at e
      have := Option.some.inj (show some ((0 : Int) + (pre.length : Int)) = some x from e)
      omega
    subst hx
    have hpl : pre.length ≤ 2 := by omega
    rw [cutMid (by omega) (by omega) (by omega)]
    have hc4 : ((N.drop (3 + 4 * (pre.length : Int)).toNat).take ((7 + 4 * (pre.length : Int)).toNat - (3 + 4 * (pre.length : Int)).toNat)) = (N.drop (3 + 4 * pre.length)).take 4 := by
      rw [show (7 + 4 * (pre.length : Int)).toNat - (3 + 4 * (pre.length : Int)).toNat = 4 by omega, show (3 + 4 * (pre.length : Int)).toNat = 3 + 4 * pre.length by omega]
    rw [hc4]
    have hl4 : ((N.drop (3 + 4 * pre.length)).take 4).length = 4 := by rw [List.length_take, List.length_drop]; omega
    refine ok_bind (draw_ok ns (905 + (pre.length : Int)) 3 (by omega) (by omega)) fun c hc => ?_
    have hp3 : atI ((N.drop (3 + 4 * pre.length)).take 4) 3 = some (N.getD (6 + 4 * pre.length) []) := by
      rw [getD_of [] (by omega) (by rw [hl4]; omega)]
      congr 1
      rw [List.getD_eq_getElem?_getD, List.getD_eq_getElem?_getD, List.getElem?_take_of_lt (by omega), List.getElem?_drop]
      congr 2
      show 3 + 4 * pre.length + 3 = _
      omega
    rw [hp3, bindS, bindS]
    have hlw : (N.getD (6 + 4 * pre.length) []).length ≤ 7 := by
      rw [List.getD_eq_getElem?_getD, List.getElem?_eq_getElem (by omega)]
      exact (hlow _ (List.getElem_mem (by omega))).2.1
    rw [catS_eq (by have : (cod "h").length = 1 := by decide
                    omega), bindS]
    refine ok_bind (draw_ok ns (910 + (pre.length : Int)) 3 (by omega) (by omega)) fun p hp2 => ?_
    have hat : atI N (pre.length : Int) = some (N.getD pre.length []) := by rw [getD_of [] (by omega) (by omega)]; rfl
    rw [cutTake (by omega), cutTake (by omega), cutTake (by omega)]
    rw [compG_eq (p := fun x => !decide (x = N.getD pre.length [])) (g := fun x => x) (by rw [List.length_take]; omega) (fun y hy => by rw [hat, bindS]; split <;> rfl), bindS, hat, bindS, List.map_id']
    have hcs : (((N.drop (3 + 4 * pre.length)).take 4).take (1 + c).toNat) = claimsAt N pre.length (1 + c).toNat := by
      unfold claimsAt
      rw [List.take_take, Nat.min_eq_left (by omega)]
    rw [hcs]
    have hcl : (claimsAt N pre.length (1 + c).toNat).length = (1 + c).toNat := by
      unfold claimsAt
      rw [List.length_take, List.length_drop]; omega
    have hcn : (claimsAt N pre.length (1 + c).toNat).Nodup := (hnd.sublist (List.drop_sublist _ _)).sublist (List.take_sublist _ _)
    refine ok_bind (pool_ok ns (200 * (pre.length : Int)) (by omega) (N.getD pre.length []) (cs := claimsAt N pre.length (1 + c).toNat) (ps := potsAt N pre.length p.toNat) (os := othersAt N pre.length (1 + d).toNat) (by omega) hcn (by omega) (by unfold potsAt; rw [List.length_take]; omega)) fun q hq => ?_
    obtain ⟨t, rfl, e, ht⟩ := hq
    refine ok_eq (push_eq (by rw [List.length_map]; omega)) (ok_some ⟨ts ++ [t], by simp, by simp [h1], fun k t2 hk => ?_⟩)
    rcases Nat.lt_or_ge k ts.length with hk2 | hk2
    · rw [List.getElem?_append_left hk2] at hk
      exact h2 k t2 hk
    · rw [List.getElem?_append_right hk2] at hk
      have hz : k - ts.length = 0 := by
        rcases Nat.eq_zero_or_pos (k - ts.length) with h | h
        · exact h
        · rw [List.getElem?_eq_none (by simp; omega)] at hk; cases hk
      rw [hz] at hk
      have : t = t2 := Option.some.inj hk
      subst this
      have hkk : k = pre.length := by omega
      subst hkk
      exact ⟨e, (1 + c).toNat, p.toNat, by omega, by omega, by omega, ht⟩
  obtain ⟨ts, rfl, h1, h2⟩ := hdeal
  rw [rngN_len] at h1
  refine ok_some ⟨ts, rfl, N, hnd, hlen, hlow, by omega, by omega, fun k t hk => ?_⟩
  rw [h1]; exact h2 k t hk
end DK

set_option Elab.async false
set_option linter.all false
set_option maxRecDepth 100000
set_option maxHeartbeats 1000000
namespace K30
open PySem PySem.Spec PyProof.Rows L2 DL
open DK (TP TO Rl PoolOk DealOk)
theorem draw_ok (ns : List Int) (k m : Int) (hk : 0 ≤ k ∧ k ≤ 100000) (hm : 1 ≤ m) : Ok (n_law_draw ns k m) fun x => 0 ≤ x ∧ x < m := DK.draw_ok ns k m hk hm
theorem deal_ok (ns : List Int) : Ok (n_law_deal ns 3) fun d => ∃ ts : List TP, d = ts.map TP.d ∧ DealOk 3 ts := DK.deal_ok ns 3 (by omega)
/-- what a book of a pool is like -/
structure BookOk (p : R3) (b : R4) : Prop where
  runs : b.2.2.1.map (·.1) = p.2.1.map (·.1)
  sizes : b.1.map (·.1) = p.2.1.map (·.1)
  owed : b.2.1.map (·.1) = p.2.1.map (·.1)
  levels : ∀ l ∈ b.2.2.2.1, l.1 ∈ p.2.2.1.map (·.1)
theorem book_ok (ns : List Int) (p : R3) (hl : p.2.1.length ≤ 3) (hc : ∀ c ∈ p.2.1, 0 ≤ c.2.2 ∧ c.2.2 ≤ 1000000000000) (hm : ∀ m ∈ p.2.2.1, 1 ≤ m.2) (hp : p.2.2.1.length ≤ 2) : Ok (n_law_book ns p) (BookOk p) := by
  unfold n_law_book
  refine ok_bind (ok_fold0 (I := fun done s => s.1.map (·.1) = done.map (·.2.1) ∧ s.2.map (·.1) = done.map (·.2.1)) ⟨rfl, rfl⟩ fun pre x post s hp hi => ?_) fun s hs => ?_
  · have hm := enumN_mem (k := 0) (xs := p.2.1) (p := x) (by rw [hp]; simp)
    have hpl : pre.length < 4 := by
      have := congrArg List.length hp
      rw [enumN_len] at this
      simp at this; omega
    have q1 := congrArg List.length hi.1
    have q2 := congrArg List.length hi.2
    rw [List.length_map, List.length_map] at q1 q2
    refine ok_bind (draw_ok ns (700 + x.1) 30 (by omega) (by omega)) fun a _ => ?_
    refine ok_bind (draw_ok ns (710 + x.1) 3 (by omega) (by omega)) fun b hb => ?_
    refine ok_bind (ok_atI (R := fun _ => True) hb.1 (by show b < 3; omega) fun _ _ => trivial) fun z _ => ?_
    refine ok_eq (push_eq (by omega)) ?_
    refine ok_bind (draw_ok ns (720 + x.1) 4 (by omega) (by omega)) fun c hc4 => ?_
    refine ok_eq (mulN_r (by omega)) ?_
    have hx := hc x.2 hm.2.2
    have h1 : 0 ≤ x.2.2.2 * c := Int.mul_nonneg hx.1 hc4.1
    have h2 : x.2.2.2 * c ≤ 1000000000000 * 4 := Int.mul_le_mul hx.2 (by omega) hc4.1 (by omega)
    refine ok_eq (mulN_l (by omega)) ?_
    exact ok_eq (push_eq (by omega)) (ok_some ⟨by rw [List.map_append, List.map_append, hi.1]; rfl, by rw [List.map_append, List.map_append, hi.2]; rfl⟩)
  refine ok_bind (ok_fold0 (I := fun done s => s.map (·.1) = done.map (·.2.1)) rfl fun pre x post s hp hi => ?_) fun runs hruns => ?_
  · have hm := enumN_mem (k := 0) (xs := p.2.1) (p := x) (by rw [hp]; simp)
    have hpl : s.length < 4 := by
      have := congrArg List.length hp
      rw [enumN_len] at this
      have h2 := congrArg List.length hi
      simp at this h2; omega
    refine ok_bind (draw_ok ns (730 + x.1) 5 (by omega) (by omega)) fun a _ => ?_
    exact ok_eq (push_eq (by omega)) (ok_some (by rw [List.map_append, List.map_append, hi]; rfl))
  refine ok_bind (ok_compO (R := fun x y => y.1 = x.1) (by omega) fun x hx => ?_) fun c hc2 => ?_
  · have := hm x hx
    refine ok_bind (draw_ok ns 740 1000 (by omega) (by omega)) fun y _ => ?_
    exact ok_bind (ok_mod (by omega)) fun _ _ => ok_some rfl
  have e : (enumN 0 p.2.1).map (·.2.1) = p.2.1.map (·.1) := by
    have := enumN_snd 0 p.2.1
    conv => rhs; rw [← this]
    rw [List.map_map]; rfl
  rw [e] at hruns hs
  refine ok_bind (draw_ok ns 741 100 (by omega) (by omega)) fun y _ => ok_some ⟨hruns, hs.1, hs.2, fun l hl => ?_⟩
  obtain ⟨x, hx, h⟩ := hc2.2 l hl
  rw [h]; exact List.mem_map.mpr ⟨x, hx, rfl⟩
/-- the order that is due -/
def dueL (runs : List TSI) : List TSIS → Option Nm
  | [] => none
  | l :: ls => if (runs.any fun r => decide (r.1 = l.1) && decide (l.2.1 ≤ r.2)) = true then some l.2.2 else dueL runs ls
theorem due_inner (l : TSIS) (w : Nm) : ∀ runs : List TSI, foldB (ρ := Nm) (fun (x10 : TSI) (s9 : Nm) => (if ((decide (x10.1 = l.1)) && (decide (l.2.1 ≤ x10.2))) = true then (some (Lp.rt s9)) else (some (Lp.nx s9)))) runs w = some (if (runs.any fun r => decide (r.1 = l.1) && decide (l.2.1 ≤ r.2)) = true then Lp.rt w else Lp.nx w)
  | [] => rfl
  | r :: runs => by
    show Option.bind (if (decide (r.1 = l.1) && decide (l.2.1 ≤ r.2)) = true then some (Lp.rt w) else some (Lp.nx w)) _ = _
    rw [List.any_cons]
    cases h : (decide (r.1 = l.1) && decide (l.2.1 ≤ r.2)) with
    | true => rfl
    | false => exact due_inner l w runs
theorem due_eq (p : R3) (b : R4) (o : R2) (os : List R2) (h : p.2.2.2.2.1 = o :: os) : n_law_due p b = some ((dueL b.2.2.1 p.2.2.2.2.2.1).getD o.1) := by
  unfold n_law_due
  have go : ∀ ls : List TSIS, foldB (ρ := Nm) (fun (x3 : TSIS) (s2 : Unit) =>
      (foldB (ρ := Nm) (fun (x10 : TSI) (s9 : Nm) => (if ((decide (x10.1 = x3.1)) && (decide (x3.2.1 ≤ x10.2))) = true then (some (Lp.rt s9)) else (some (Lp.nx s9)))) b.2.2.1 x3.2.2).bind (lpK (fun s13 => some (Lp.nx ())) (fun r => some (Lp.rt r)))) ls () = some (match dueL b.2.2.1 ls with | some n => Lp.rt n | none => Lp.nx ()) := by
    intro ls
    induction ls with
    | nil => rfl
    | cons l ls ih =>
      show Option.bind (Option.bind _ _) _ = _
      rw [due_inner, bindS]
      unfold dueL
      split
      · rfl
      · exact ih
  rw [go, bindS]
  cases dueL b.2.2.1 p.2.2.2.2.2.1 with
  | some n => rfl
  | none => show Option.bind _ _ = _; rw [h, atI_0]; rfl
theorem now_eq (p : R3) (b : R4) (o : R2) (os : List R2) (h : p.2.2.2.2.1 = o :: os) (hn : (b.2.2.1.map (·.1)).Nodup) (hl : ∀ l ∈ p.2.2.2.2.2.1, l.1 ∈ b.2.2.1.map (·.1)) : n_order_now p b = some ((dueL b.2.2.1 p.2.2.2.2.2.1).getD o.1) := by
  unfold n_order_now
  have one : ∀ (runs : List TSI), (runs.map (·.1)).Nodup → ∀ (n : Nm) (x d : Int), lkN runs n = some x → (runs.any fun r => decide (r.1 = n) && decide (d ≤ r.2)) = decide (d ≤ x) := by
    intro runs
    induction runs with
    | nil => intro _ n x d h; cases h
    | cons r runs ih =>
      intro hn n x d h
      obtain ⟨j, y⟩ := r
      rw [List.map_cons, List.nodup_cons] at hn
      rw [lk_cons] at h
      rw [List.any_cons]
      by_cases c : j = n
      · subst c
        rw [if_pos rfl] at h
        cases h
        have : (runs.any fun r => decide (r.1 = j) && decide (d ≤ r.2)) = false := by
          rw [List.any_eq_false]
          intro q hq hh
          have := of_decide_eq_true (Bool.and_eq_true _ _ ▸ hh).1
          exact hn.1 (List.mem_map.mpr ⟨q, hq, this⟩)
        rw [this]; simp
      · rw [if_neg c] at h
        have hh : decide ((j, y).1 = n) = false := decide_eq_false c
        rw [hh, Bool.false_and, Bool.false_or]
        exact ih hn.2 n x d h
  have go : ∀ ls : List TSIS, (∀ l ∈ ls, l.1 ∈ b.2.2.1.map (·.1)) → foldB (ρ := Nm) (fun (x3 : TSIS) (s2 : Unit) =>
      (lkN (mkK b.2.2.1) x3.1).bind fun x7 => (if (decide (x3.2.1 ≤ x7)) = true then (some (Lp.rt x3.2.2)) else (some (Lp.nx ())))) ls () = some (match dueL b.2.2.1 ls with | some n => Lp.rt n | none => Lp.nx ()) := by
    intro ls
    induction ls with
    | nil => intro _; rfl
    | cons l ls ih =>
      intro hm
      obtain ⟨x, hx⟩ := lk_isSome (hm l (by simp))
      show Option.bind (Option.bind _ _) _ = _
      rw [mk_lk1 hn, hx, bindS]
      unfold dueL
      rw [one _ hn l.1 x l.2.1 hx]
      split
      · rfl
      · exact ih fun z hz => hm z (by simp [hz])
  rw [go _ hl, bindS]
  cases dueL b.2.2.1 p.2.2.2.2.2.1 with
  | some n => rfl
  | none => show Option.bind _ _ = _; rw [h, atI_0]; rfl
def bookB (p : R3) : R4 := (p.2.1.map fun c => (c.1, c.2.1), p.2.1.map fun c => (c.1, 0), p.2.1.map fun c => (c.1, 0), p.2.2.1.map fun c => (c.1, 0), 0)
theorem begun_eq (d : List R3) (hd : d.length ≤ 1000000) (h : ∀ p ∈ d, p.2.1.length ≤ 1000 ∧ p.2.2.1.length ≤ 1000) : n_begun d = some (d.map bookB, [], d.map fun _ => 0) := by
  unfold n_begun
  rw [compO_eq (g := bookB) hd (fun p hp => ?_), bindS, compT_eq hd, bindS]
  obtain ⟨h1, h2⟩ := h p hp
  show (n_book_begun p).bind _ = _
  unfold n_book_begun
  rw [compT_eq (by omega), bindS, compT_eq (by omega), bindS, bindS, compT_eq (by omega), bindS, bindS]; rfl
theorem books_eq (d : List R3) (hd : d.length ≤ 1000) (h : ∀ p ∈ d, p.2.1.length ≤ 1000 ∧ p.2.2.1.length ≤ 1000) : fold (fun (x11 : R3) (s10 : (List R4)) =>
  (compT (fun (x17 : TSII) => (x17.1, (0 : Int))) x11.2.1).bind fun c18 =>
  (compT (fun (x19 : TSII) => (x19.1, x19.2.1)) x11.2.1).bind fun c20 =>
  (compT (fun (x21 : TSI) => (x21.1, (0 : Int))) x11.2.2.1).bind fun c22 =>
  (push s10 (c20, c18, c18, c22, (0 : Int))).bind fun x23 =>
  some x23) d ([] : List R4) = some (d.map bookB) := by
  refine ok_fin (ok_fold0 (I := fun done s => s = done.map bookB) rfl fun pre x post s hp hi => ?_)
  subst hi
  have hpl : pre.length < 1001 := by
    have := congrArg List.length hp
    simp at this; omega
  obtain ⟨h1, h2⟩ := h x (by rw [hp]; simp)
  refine ok_eq (compT_eq (by omega)) (ok_eq (compT_eq (by omega)) (ok_eq (compT_eq (by omega)) (ok_eq (push_eq (by rw [List.length_map]; omega)) (ok_some ?_))))
  rw [List.map_append]; rfl

theorem rl_ok {cs ps os : List Nm} (hs : ∀ n ∈ cs ++ ps ++ os, Sok n) {r : Rl} (h : r.In cs ps os ∨ ∃ c ∈ cs, r = .rest c) : dOk 4 r.d = true := by
  have hc : ∀ n ∈ cs, Sok n := fun n hn => hs n (by simp [hn])
  have hp : ∀ n ∈ ps, Sok n := fun n hn => hs n (by simp [hn])
  have ho : ∀ n ∈ os, Sok n := fun n hn => hs n (by simp [hn])
  rcases h with h | ⟨c, hc2, rfl⟩
  · cases r with
    | pay c => exact dT2 (dS (sok_cod _)) (dS (hc c h))
    | share l => exact dT2 (dS (sok_cod _)) (dQ fun x hx => dS (hc x (h.1 x hx)))
    | repay c => exact dT2 (dS (sok_cod _)) (dS (hc c h))
    | fill c => exact dT2 (dS (sok_cod _)) (dS (hp c h))
    | lend c x => exact dT3 (dS (sok_cod _)) (dS (ho c h.1)) rfl
    | back c => exact dT2 (dS (sok_cod _)) (dS (ho c h))
    | rest c => exact h.elim
  · exact dT2 (dS (sok_cod _)) (dS (hc c hc2))
theorem take_mem {α : Type} {xs : List α} {k : Nat} {x : α} (h : x ∈ xs.take k) : x ∈ xs := List.mem_of_mem_take h
theorem pool_dOk {cs ps os : List Nm} (hs : ∀ n ∈ cs ++ ps ++ os, Sok n) {t : TP} (h : PoolOk cs ps os t) (hn : Sok t.1) : dOk 8 (eR3 t.d) = true := by
  have hc : ∀ n ∈ cs, Sok n := fun n hn => hs n (by simp [hn])
  have hp : ∀ n ∈ ps, Sok n := fun n hn => hs n (by simp [hn])
  have hon : ∀ n ∈ t.2.2.2.2.1.map (·.1), Sok n := fun n hn => by
    obtain ⟨k, _, _, e⟩ := h.onames
    rw [e] at hn
    have := take_mem hn
    simp only [DK.onames, List.mem_cons, List.not_mem_nil, or_false] at this
    rcases this with rfl | rfl | rfl <;> exact sok_cod _
  refine dT7 (dS hn) (dL fun c hx => ?_) (dL fun c hx => ?_) (dL fun c hx => dS (hc c (h.eat.2 c hx))) (dL fun o hx => ?_) (dL fun l hx => ?_) (dL fun g hx => ?_)
  · exact dT3 (dS (hc c.1 (by rw [← h.claims]; exact List.mem_map.mpr ⟨c, hx, rfl⟩))) rfl rfl
  · exact dT2 (dS (hp c.1 (by rw [← h.pots]; exact List.mem_map.mpr ⟨c, hx, rfl⟩))) rfl
  · obtain ⟨o, ho, rfl⟩ := List.mem_map.mp hx
    have hk := h.orders o ho
    refine dT3 (dS (hon _ (List.mem_map.mpr ⟨o, ho, rfl⟩))) (dL fun p hp => dT2 (dS (hc _ (hk.parts p hp).1)) rfl) (dL fun r hr => ?_)
    obtain ⟨r2, hr2, rfl⟩ := List.mem_map.mp hr
    exact rl_ok hs (hk.all.1 r2 hr2)
  · have := h.looks l hx
    exact dT3 (dS (hc _ this.1)) rfl (dS (hon _ this.2.2))
  · have := h.guards g hx
    exact dT2 (dS (hp _ this.1)) (dS (hc _ this.2.1))
theorem names_sok {N : List Nm} (hlen : N.length = 16) (hl : ∀ n ∈ N, DK.Low n) {m k c p : Nat} (hk : k ≤ 2) : ∀ n ∈ DK.claimsAt N k c ++ DK.potsAt N k p ++ DK.othersAt N k m, Sok n := by
  have hN : ∀ n ∈ N, Sok n := fun n hn x hx => by have := (hl n hn).2.2 x hx; omega
  have hg : ∀ i, i < 16 → Sok (N.getD i []) := fun i hi => by
    rw [List.getD_eq_getElem?_getD, List.getElem?_eq_getElem (by omega)]
    exact hN _ (List.getElem_mem _)
  intro n hn
  rcases List.mem_append.mp hn with hn | hn
  · rcases List.mem_append.mp hn with hn | hn
    · exact hN n (List.mem_of_mem_drop (take_mem hn))
    · have := take_mem hn
      simp only [List.mem_cons, List.not_mem_nil, or_false] at this
      rcases this with rfl | rfl
      · exact hg _ (by omega)
      · intro c hc
        rcases List.mem_append.mp hc with hc | hc
        · exact hg _ (by omega) c hc
        · exact cod_ok _ c hc
  · exact hN n (take_mem (List.mem_filter.mp hn).1)
theorem law_true (ns : List Int) (hl : ns.length ≤ 63) (hb : ∀ z ∈ ns, Builtin.Int.intBits z ≤ 1048576) : phi_law [.lst (ns.map D.int)] = some (.p (.bl true)) := by
  refine l_law (r := true) (ok_fin ?_)
  unfold n_law
  obtain ⟨d, hd, ts, rfl, N, hnd, hlen, hlow, h1, h3, hts⟩ := deal_ok ns
  have hall : ∀ t ∈ ts, ∃ k, k ≤ 2 ∧ DK.PoolAt N ts.length k t := fun t ht => by
    obtain ⟨k, hk, e⟩ := List.getElem_of_mem ht
    exact ⟨k, by have : ts.length ≤ 3 := h3; omega, hts k t (by rw [List.getElem?_eq_getElem hk, e])⟩
  have hpool : ∀ t ∈ ts, ∃ cs ps os, (∀ n ∈ cs ++ ps ++ os, Sok n) ∧ cs.length ≤ 3 ∧ cs.Nodup ∧ ps.length ≤ 2 ∧ PoolOk cs ps os t ∧ Sok t.1 := fun t ht => by
    obtain ⟨k, hk, e, c, p, h1, h2, h3, hok⟩ := hall t ht
    refine ⟨_, _, _, names_sok hlen hlow hk, ?_, ?_, ?_, hok, ?_⟩
    · unfold DK.claimsAt; rw [List.length_take]; omega
    · exact (hnd.sublist (List.drop_sublist _ _)).sublist (List.take_sublist _ _)
    · unfold DK.potsAt; rw [List.length_take]; omega
    · rw [e, List.getD_eq_getElem?_getD, List.getElem?_eq_getElem (by omega)]
      intro x hx
      have := (hlow _ (List.getElem_mem (by omega))).2.2 x hx
      omega
  have hddk : dOk 20 (eLs eR3 (ts.map TP.d)) = true := by
    refine dL fun p hp => ?_
    obtain ⟨t, ht, rfl⟩ := List.mem_map.mp hp
    obtain ⟨cs, ps, os, hs, _, _, _, hok, hn⟩ := hpool t ht
    exact dOk_up (pool_dOk hs hok hn) 19 (by omega)
  have hpos : 0 < ts.length := by omega
  obtain ⟨t, tr, rfl⟩ : ∃ t tr, ts = t :: tr := by
    cases ts with
    | nil => simp at hpos
    | cons t tr => exact ⟨t, tr, rfl⟩
  obtain ⟨cs, ps, os, hs, hcl, hcn, hpl, hok, hn⟩ := hpool t (by simp)
  have hl1 : t.d.2.1.length ≤ 3 := by
    have := congrArg List.length hok.claims
    rw [List.length_map] at this
    show t.2.1.length ≤ 3
    omega
  have hl2 : t.d.2.2.1.length ≤ 2 := by
    have := congrArg List.length hok.pots
    rw [List.length_map] at this
    show t.2.2.1.length ≤ 2
    omega
  obtain ⟨b, hbk, hb1⟩ := book_ok ns t.d hl1 (fun c hc => by have := hok.sizes c hc; omega) (fun m hm => (hok.marks m hm).1) hl2
  obtain ⟨o, orr, ho⟩ : ∃ o orr, t.2.2.2.2.1 = o :: orr := by
    cases e : t.2.2.2.2.1 with
    | nil =>
      obtain ⟨k, k1, k3, e2⟩ := hok.onames
      rw [e] at e2
      have := congrArg List.length e2
      rw [List.length_take] at this
      simp [DK.onames] at this; omega
    | cons o orr => exact ⟨o, orr, rfl⟩
  have ho' : t.d.2.2.2.2.1 = o.d :: orr.map TO.d := by show t.2.2.2.2.1.map TO.d = _; rw [ho]; rfl
  have hruns : b.2.2.1.map (·.1) = cs := by rw [hb1.runs]; exact hok.claims
  have hnow := now_eq t.d b o.d _ ho' (by rw [hruns]; exact hcn) (fun l hl => by rw [hruns]; exact (hok.looks l hl).1)
  have hdue := due_eq t.d b o.d _ ho'
  have hc : ∀ n ∈ cs, Sok n := fun n hn => hs n (by simp [hn])
  have hp : ∀ n ∈ ps, Sok n := fun n hn => hs n (by simp [hn])
  have hbd : dOk 8 (eR4 b) = true := by
    have g : ∀ (l : List TSI), l.map (·.1) = t.d.2.1.map (·.1) → dOk 7 (eLs eTSI l) = true := fun l hl => dL fun x hx => dT2 (dS (hc _ (by
      have h2 : t.d.2.1.map (·.1) = cs := hok.claims
      rw [← h2, ← hl]; exact List.mem_map.mpr ⟨x, hx, rfl⟩))) rfl
    refine dT5 (g _ hb1.sizes) (g _ hb1.owed) (g _ hb1.runs) (dL fun x hx => dT2 (dS (hp _ ?_)) rfl) rfl
    have := hb1.levels x hx
    have h2 : t.d.2.2.1.map (·.1) = ps := hok.pots
    rw [h2] at this; exact this
  refine ok_eq hd ?_
  rw [List.map_cons, atI_0, bindS]
  refine ok_eq hbk (ok_eq hnow ?_)
  refine ok_bind (Q := (· = false)) ?_ fun x hx => ?_
  · rw [if_neg (by simp), hdue, bindS]
    rw [if_neg (by simp), hbk, bindS, eqQ_refl 8 (by omega) hbd]
    exact ok_some rfl
  subst hx
  rw [if_neg (by simp)]
  have hdl : ((t :: tr).map TP.d).length ≤ 3 := by rw [List.length_map]; exact h3
  have hsm : ∀ p ∈ (t :: tr).map TP.d, p.2.1.length ≤ 1000 ∧ p.2.2.1.length ≤ 1000 := fun p hp => by
    obtain ⟨t2, ht2, rfl⟩ := List.mem_map.mp hp
    obtain ⟨cs2, ps2, os2, _, a1, _, a2, hok2, _⟩ := hpool t2 ht2
    have q1 := congrArg List.length hok2.claims
    have q2 := congrArg List.length hok2.pots
    rw [List.length_map] at q1 q2
    exact ⟨by show t2.2.1.length ≤ 1000; omega, by show t2.2.2.1.length ≤ 1000; omega⟩
  rw [← List.map_cons (f := TP.d)]
  refine ok_eq (books_eq _ (by omega) hsm) ?_
  refine ok_eq (begun_eq _ (by omega) hsm) ?_
  have hst : dOk 20 (eR6 (((t :: tr).map TP.d).map bookB, [], ((t :: tr).map TP.d).map fun _ => 0)) = true := by
    refine dT3 (dL fun p hp => ?_) (dL fun x hx => nomatch hx) (dL fun x hx => dI)
    obtain ⟨q, hq, rfl⟩ := List.mem_map.mp hp
    obtain ⟨t2, ht2, rfl⟩ := List.mem_map.mp hq
    obtain ⟨cs2, ps2, os2, hs2, a1, _, a2, hok2, _⟩ := hpool t2 ht2
    have g1 : ∀ c ∈ t2.2.1, Sok c.1 := fun c hc => hs2 _ (by rw [← hok2.claims]; simp only [List.mem_append]; exact .inl (.inl (List.mem_map.mpr ⟨c, hc, rfl⟩)))
    have g2 : ∀ c ∈ t2.2.2.1, Sok c.1 := fun c hc => hs2 _ (by rw [← hok2.pots]; simp only [List.mem_append]; exact .inl (.inr (List.mem_map.mpr ⟨c, hc, rfl⟩)))
    refine dT5 (dL fun x hx => ?_) (dL fun x hx => ?_) (dL fun x hx => ?_) (dL fun x hx => ?_) dI
    all_goals
      obtain ⟨c, hc, rfl⟩ := List.mem_map.mp hx
      first | exact dT2 (dS (g1 c hc)) dI | exact dT2 (dS (g2 c hc)) dI
  have hpl2 : LQ.pOk 7 (eR6 (((t :: tr).map TP.d).map bookB, [], ((t :: tr).map TP.d).map fun _ => 0)) = true := by
    refine pT3 (n := 6) (pL (n := 5) (by rw [List.length_map]; omega) fun p hp => ?_) (pL (by simp) fun x hx => nomatch hx) (pL (by rw [List.length_map]; omega) fun x hx => pI)
    obtain ⟨q, hq, rfl⟩ := List.mem_map.mp hp
    obtain ⟨q1, q2⟩ := hsm q hq
    refine pT5 (pL (by show (q.2.1.map _).length ≤ _; rw [List.length_map]; omega) fun x hx => pT2 pS pI) (pL (by show (q.2.1.map _).length ≤ _; rw [List.length_map]; omega) fun x hx => pT2 pS pI) (pL (by show (q.2.1.map _).length ≤ _; rw [List.length_map]; omega) fun x hx => pT2 pS pI) (pL (by show (q.2.2.1.map _).length ≤ _; rw [List.length_map]; omega) fun x hx => pT2 pS pI) pI
  refine ok_bind (Q := (· = false)) ?_ fun x hx => ?_
  · rw [if_neg (by simp)]
    have : phi_law_plain 8 [eR6 (((t :: tr).map TP.d).map bookB, [], ((t :: tr).map TP.d).map fun _ => 0)] = some (.p (.bl true)) := LQ.plain_ok 7 _ hpl2
    rw [this]
    show Ok (Option.bind (some _) _) _
    rw [bindS, if_neg (by simp), hd, bindS, eqQ_refl 20 (by omega) hddk]
    exact ok_some rfl
  subst hx
  rw [if_neg (by simp)]
  refine ok_eq (compT_eq (by omega)) ?_
  rw [eqQ_refl 20 (by omega) hst]
  exact ok_some rfl
end K30

set_option Elab.async false
set_option linter.all false
set_option maxRecDepth 100000
set_option maxHeartbeats 4000000
open PySem PySem.W PyProof.Rows
set_option maxHeartbeats 0 in
theorem PySem.Challenge.cw_tranchefall_k30_looks_turn_the_order_holds : PySem.Challenge.rw_tranchefall_k30_looks_turn_the_order.Holds := by
  w_on; o_law; k_head; (case hw => w_witness2)
  k_fill
  refine DL.walk_D (l := PySem.Challenge.rw_tranchefall_k30_looks_turn_the_order) (n := 63) (k := 11) (x := "_law_script") (φ := K30.phi_law) rfl (by decide) rfl ⟨rfl, by decide, by decide⟩ (fun w h Y => PySem.W.kIn_of Y) ?F K30.law_true
  case F =>
    intro w mg fa h KX G hmg
    refine' K30.all_mk KX G hmg ?a1 ?l1 ?c1 ?k1 ?a2 ?l2 ?c2 ?k2 ?a3 ?l3 ?c3 ?k3 ?a4 ?l4 ?c4 ?k4 ?a5 ?l5 ?c5 ?k5 ?a6 ?l6 ?c6 ?k6 ?a7 ?l7 ?c7 ?k7 ?a8 ?l8 ?c8 ?k8 ?a9 ?l9 ?c9 ?k9 ?a10 ?l10 ?c10 ?k10 ?a11 ?l11 ?c11 ?k11 ?a12 ?l12 ?c12 ?k12 ?a13 ?l13 ?c13 ?k13 ?a14 ?l14 ?c14 ?k14 ?a15 ?l15 ?c15 ?k15 ?a16 ?l16 ?c16 ?k16 ?a17 ?l17 ?c17 ?k17 ?z1 ?z2 ?z3 ?z4 ?z5 ?z6 ?z7 ?z8 ?z9 ?z10 ?z11 ?z12
    (case a1 => k_is); (case l1 => k_is); (case c1 => k_is); (case k1 => k_is); (case a2 => k_is); (case l2 => k_is); (case c2 => k_is); (case k2 => k_is); (case a3 => k_is); (case l3 => k_is); (case c3 => k_is); (case k3 => k_is); (case a4 => k_is); (case l4 => k_is); (case c4 => k_is); (case k4 => k_is); (case a5 => k_is); (case l5 => k_is); (case c5 => k_is); (case k5 => k_is); (case a6 => k_is); (case l6 => k_is); (case c6 => k_is); (case k6 => k_is); (case a7 => k_is); (case l7 => k_is); (case c7 => k_is); (case k7 => k_is); (case a8 => k_is); (case l8 => k_is); (case c8 => k_is); (case k8 => k_is); (case a9 => k_is); (case l9 => k_is); (case c9 => k_is); (case k9 => k_is); (case a10 => k_is); (case l10 => k_is); (case c10 => k_is); (case k10 => k_is); (case a11 => k_is); (case l11 => k_is); (case c11 => k_is); (case k11 => k_is); (case a12 => k_is); (case l12 => k_is); (case c12 => k_is); (case k12 => k_is); (case a13 => k_is); (case l13 => k_is); (case c13 => k_is); (case k13 => k_is); (case a14 => k_is); (case l14 => k_is); (case c14 => k_is); (case k14 => k_is); (case a15 => k_is); (case l15 => k_is); (case c15 => k_is); (case k15 => k_is); (case a16 => k_is); (case l16 => k_is); (case c16 => k_is); (case k16 => k_is); (case a17 => k_is); (case l17 => k_is); (case c17 => k_is); (case k17 => k_is); (case z1 => k_is); (case z2 => k_is); (case z3 => k_is); (case z4 => k_is); (case z5 => k_is); (case z6 => k_is); (case z7 => k_is); (case z8 => k_is); (case z9 => k_is); (case z10 => k_is); (case z11 => k_is); (case z12 => k_is)
