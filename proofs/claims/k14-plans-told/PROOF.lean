import PyProof.Rows.All
import Wide.All
import OpenK.AllK
import Wide.FinOn
import HandS.ForMost
import HandS.Wide
import HandS.EndBits
import HandS.IsInst
import HandS.RaiseMore
import HandS.Zip
import KE.KDictList
import HandS.More
import PySem.Challenge.RW_tranchefall_k14_plans_told
set_option Elab.async false
set_option linter.all false
set_option maxRecDepth 100000
/-! Direct style over the hand layer: trees of data for values, total functions for code. -/
namespace DL
open PySem PySem.Spec PyProof.Rows L2
abbrev St := L2.St

/-- data without places: what is never changed any more -/
inductive D where
  | non | bl (b : Bool) | int (i : Int) | str (s : Str) | lst (ds : List D) | tup (ds : List D) | dic (kvs : List (Key × D)) | dit (kvs : List (List Key × D)) | obj (n : Str) (fs : List (Str × D)) | al (a : Addr)
/-- trees with lists and dicts of one holder alone, which may still be changed -/
inductive T where
  | p (d : D) | lst (ts : List T) | tup (ts : List T) | dic (kvs : List (Key × T)) | dit (kvs : List (List Key × T)) | obj (n : Str) (fs : List (Str × T)) | box (a : Addr) (t : T) | al (a : Addr)

mutual
def T.toD : T → D
  | .p d => d
  | .lst ts => .lst (T.toDs ts)
  | .tup ts => .tup (T.toDs ts)
  | .dic kvs => .dic (T.toKs kvs)
  | .dit kvs => .dit (T.toKt kvs)
  | .obj n fs => .obj n (T.toKf fs)
  | .box _ t => t.toD
  | .al a => .al a
def T.toDs : List T → List D
  | [] => []
  | t :: ts => t.toD :: T.toDs ts
def T.toKs : List (Key × T) → List (Key × D)
  | [] => []
  | (k, t) :: r => (k, t.toD) :: T.toKs r
def T.toKt : List (List Key × T) → List (List Key × D)
  | [] => []
  | (k, t) :: r => (k, t.toD) :: T.toKt r
def T.toKf : List (Str × T) → List (Str × D)
  | [] => []
  | (k, t) :: r => (k, t.toD) :: T.toKf r
end
theorem toDs_map : ∀ ts : List T, T.toDs ts = ts.map T.toD
  | [] => rfl
  | t :: ts => by rw [T.toDs, toDs_map ts]; rfl
theorem toDs_p (ds : List D) : T.toDs (ds.map T.p) = ds := by
  rw [toDs_map, List.map_map]
  show ds.map (fun d => (T.p d).toD) = ds
  simp [T.toD]

/-- the class of a name -/
def ClsN (K : PySem.W.Frag) (n : Str) (C : Addr) : Prop := PySem.W.nsIn K mainGlobals n = some (some (.ref C))
mutual
def RpD (K : PySem.W.Frag) (G : Hp) : D → V → Prop
  | .non, v => v = .non
  | .bl b, v => v = .bl b
  | .int i, v => v = .int i
  | .str s, v => v = .str s
  | .lst ds, v => ∃ a vs, v = .ref a ∧ Rd G a (.lst vs) ∧ RpDs K G ds vs
  | .tup ds, v => ∃ a vs, v = .ref a ∧ SqT K G a vs ∧ RpDs K G ds vs
  | .dic kvs, v => ∃ a ws, v = .ref a ∧ Rd G a (.dK ws) ∧ RpKs K G kvs ws
  | .dit kvs, v => ∃ a ws, v = .ref a ∧ Rd G a (.dT ws) ∧ RpKt K G kvs ws
  | .obj n fs, v => ∃ a C dx ws, v = .ref a ∧ ClsN K n C ∧ G a = some (.ins C dx ws) ∧ RpKf K G fs ws
  | .al a, v => v = .ref a
def RpDs (K : PySem.W.Frag) (G : Hp) : List D → List V → Prop
  | [], vs => vs = []
  | d :: ds, vs => ∃ v r, vs = v :: r ∧ RpD K G d v ∧ RpDs K G ds r
def RpKs (K : PySem.W.Frag) (G : Hp) : List (Key × D) → List (Key × V) → Prop
  | [], vs => vs = []
  | (k, d) :: ds, vs => ∃ v r, vs = (k, v) :: r ∧ RpD K G d v ∧ RpKs K G ds r
def RpKt (K : PySem.W.Frag) (G : Hp) : List (List Key × D) → List (List Key × V) → Prop
  | [], vs => vs = []
  | (k, d) :: ds, vs => ∃ v r, vs = (k, v) :: r ∧ RpD K G d v ∧ RpKt K G ds r
def RpKf (K : PySem.W.Frag) (G : Hp) : List (Str × D) → List (Str × V) → Prop
  | [], vs => vs = []
  | (k, d) :: ds, vs => ∃ v r, vs = (k, v) :: r ∧ RpD K G d v ∧ RpKf K G ds r
end

theorem Same.rd {H H' : Hp} {a : Addr} {u : HO} (e : Same H H') (h : Rd H a u) : Rd H' a u := by
  rcases h with h | ⟨o, h⟩
  · exact .inl (e _ _ h)
  · exact .inr ⟨o, e _ _ h⟩
theorem Same.sqT {K : PySem.W.Frag} {H H' : Hp} {a : Addr} {xs : List V} (e : Same H H') (h : SqT K H a xs) : SqT K H' a xs := by
  rcases h with (h | ⟨o, h⟩) | h
  · exact .inl (.inl (e _ _ h))
  · exact .inl (.inr ⟨o, e _ _ h⟩)
  · exact .inr h
section
variable {K : PySem.W.Frag} {G G' H H' : Hp}
mutual
theorem RpD.mono (e : Same G G') : ∀ (d : D) {v : V}, RpD K G d v → RpD K G' d v
  | .non, _, h => h
  | .bl _, _, h => h
  | .int _, _, h => h
  | .str _, _, h => h
  | .lst ds, _, ⟨a, vs, h1, h2, h3⟩ => ⟨a, vs, h1, Same.rd e h2, RpDs.mono e ds h3⟩
  | .tup ds, _, ⟨a, vs, h1, h2, h3⟩ => ⟨a, vs, h1, Same.sqT e h2, RpDs.mono e ds h3⟩
  | .dic kvs, _, ⟨a, ws, h1, h2, h3⟩ => ⟨a, ws, h1, Same.rd e h2, RpKs.mono e kvs h3⟩
  | .dit kvs, _, ⟨a, ws, h1, h2, h3⟩ => ⟨a, ws, h1, Same.rd e h2, RpKt.mono e kvs h3⟩
  | .obj n fs, _, ⟨a, C, dx, ws, h1, h2, h3, h4⟩ => ⟨a, C, dx, ws, h1, h2, e _ _ h3, RpKf.mono e fs h4⟩
  | .al _, _, h => h
theorem RpDs.mono (e : Same G G') : ∀ (ds : List D) {vs : List V}, RpDs K G ds vs → RpDs K G' ds vs
  | [], _, h => h
  | d :: ds, _, ⟨v, r, h1, h2, h3⟩ => ⟨v, r, h1, RpD.mono e d h2, RpDs.mono e ds h3⟩
theorem RpKs.mono (e : Same G G') : ∀ (ds : List (Key × D)) {vs : List (Key × V)}, RpKs K G ds vs → RpKs K G' ds vs
  | [], _, h => h
  | (k, d) :: ds, _, ⟨v, r, h1, h2, h3⟩ => ⟨v, r, h1, RpD.mono e d h2, RpKs.mono e ds h3⟩
theorem RpKt.mono (e : Same G G') : ∀ (ds : List (List Key × D)) {vs : List (List Key × V)}, RpKt K G ds vs → RpKt K G' ds vs
  | [], _, h => h
  | (k, d) :: ds, _, ⟨v, r, h1, h2, h3⟩ => ⟨v, r, h1, RpD.mono e d h2, RpKt.mono e ds h3⟩
theorem RpKf.mono (e : Same G G') : ∀ (ds : List (Str × D)) {vs : List (Str × V)}, RpKf K G ds vs → RpKf K G' ds vs
  | [], _, h => h
  | (k, d) :: ds, _, ⟨v, r, h1, h2, h3⟩ => ⟨v, r, h1, RpD.mono e d h2, RpKf.mono e ds h3⟩
end
theorem RpDs.len : ∀ {ds : List D} {vs : List V}, RpDs K G ds vs → vs.length = ds.length
  | [], _, h => by rw [show _ = _ from h]; rfl
  | d :: ds, _, ⟨v, r, h1, h2, h3⟩ => by rw [h1, List.length_cons, List.length_cons, RpDs.len h3]
theorem RpDs.get : ∀ {ds : List D} {vs : List V} {i : Nat} {d : D}, RpDs K G ds vs → ds[i]? = some d → ∃ v, vs[i]? = some v ∧ RpD K G d v
  | [], _, _, _, _, e => by simp at e
  | d :: ds, _, 0, d', ⟨v, r, h1, h2, h3⟩, e => by
    simp at e; subst e; subst h1; exact ⟨v, rfl, h2⟩
  | d :: ds, _, i + 1, d', ⟨v, r, h1, h2, h3⟩, e => by
    subst h1
    obtain ⟨u, h4, h5⟩ := RpDs.get (i := i) h3 (by simpa using e)
    exact ⟨u, by simpa using h4, h5⟩
theorem RpDs.append : ∀ {ds es : List D} {vs ws : List V}, RpDs K G ds vs → RpDs K G es ws → RpDs K G (ds ++ es) (vs ++ ws)
  | [], _, _, _, h, h' => by rw [show _ = _ from h]; exact h'
  | d :: ds, _, _, _, ⟨v, r, h1, h2, h3⟩, h' => by
    subst h1
    exact ⟨v, r ++ _, rfl, h2, RpDs.append h3 h'⟩
theorem RpDs.take : ∀ {ds : List D} {vs : List V} (n : Nat), RpDs K G ds vs → RpDs K G (ds.take n) (vs.take n)
  | ds, vs, 0, _ => by simp [RpDs]
  | [], _, n + 1, h => by rw [show _ = _ from h]; simp [RpDs]
  | d :: ds, _, n + 1, ⟨v, r, h1, h2, h3⟩ => by
    subst h1
    exact ⟨v, r.take n, rfl, h2, RpDs.take n h3⟩
theorem RpDs.drop : ∀ {ds : List D} {vs : List V} (n : Nat), RpDs K G ds vs → RpDs K G (ds.drop n) (vs.drop n)
  | ds, vs, 0, h => by simpa using h
  | [], _, n + 1, h => by rw [show _ = _ from h]; simp [RpDs]
  | d :: ds, _, n + 1, ⟨v, r, h1, h2, h3⟩ => by
    subst h1
    simpa using RpDs.drop n h3

mutual
def Rp (K : PySem.W.Frag) (G H : Hp) : T → V → List Addr → Prop
  | .p d, v, o => RpD K G d v ∧ o = []
  | .lst ts, v, o => ∃ a vs o', v = .ref a ∧ H a = some (.lst vs) ∧ RpTs K G H ts vs o' ∧ o = a :: o'
  | .tup ts, v, o => ∃ a vs, v = .ref a ∧ Rd G a (.tup vs) ∧ RpTs K G H ts vs o
  | .dic kvs, v, o => ∃ a ws o', v = .ref a ∧ H a = some (.dK ws) ∧ RpTk K G H kvs ws o' ∧ o = a :: o'
  | .dit kvs, v, o => ∃ a ws o', v = .ref a ∧ H a = some (.dT ws) ∧ RpTt K G H kvs ws o' ∧ o = a :: o'
  | .obj n fs, v, o => ∃ a C dx ws o', v = .ref a ∧ ClsN K n C ∧ H a = some (.ins C dx ws) ∧ RpTf K G H fs ws o' ∧ o = a :: o'
  | .box a t, v, o => v = .ref a ∧ Rp K G H t v o
  | .al a, v, o => v = .ref a ∧ o = []
def RpTs (K : PySem.W.Frag) (G H : Hp) : List T → List V → List Addr → Prop
  | [], vs, o => vs = [] ∧ o = []
  | t :: ts, vs, o => ∃ v r o1 o2, vs = v :: r ∧ Rp K G H t v o1 ∧ RpTs K G H ts r o2 ∧ o = o1 ++ o2
def RpTk (K : PySem.W.Frag) (G H : Hp) : List (Key × T) → List (Key × V) → List Addr → Prop
  | [], vs, o => vs = [] ∧ o = []
  | (k, t) :: ts, vs, o => ∃ v r o1 o2, vs = (k, v) :: r ∧ Rp K G H t v o1 ∧ RpTk K G H ts r o2 ∧ o = o1 ++ o2
def RpTt (K : PySem.W.Frag) (G H : Hp) : List (List Key × T) → List (List Key × V) → List Addr → Prop
  | [], vs, o => vs = [] ∧ o = []
  | (k, t) :: ts, vs, o => ∃ v r o1 o2, vs = (k, v) :: r ∧ Rp K G H t v o1 ∧ RpTt K G H ts r o2 ∧ o = o1 ++ o2
def RpTf (K : PySem.W.Frag) (G H : Hp) : List (Str × T) → List (Str × V) → List Addr → Prop
  | [], vs, o => vs = [] ∧ o = []
  | (k, t) :: ts, vs, o => ∃ v r o1 o2, vs = (k, v) :: r ∧ Rp K G H t v o1 ∧ RpTf K G H ts r o2 ∧ o = o1 ++ o2
end
mutual
theorem Rp.mono (e : Same G G') : ∀ (t : T) {v : V} {o : List Addr}, (∀ a ∈ o, H' a = H a) → Rp K G H t v o → Rp K G' H' t v o
  | .p d, _, _, _, ⟨h1, h2⟩ => ⟨RpD.mono e d h1, h2⟩
  | .lst ts, _, _, k, ⟨a, vs, o', h1, h2, h3, h4⟩ => ⟨a, vs, o', h1, by rw [k a (by rw [h4]; simp)]; exact h2, RpTs.mono e ts (fun b hb => k b (by rw [h4]; simp [hb])) h3, h4⟩
  | .tup ts, _, _, k, ⟨a, vs, h1, h2, h3⟩ => ⟨a, vs, h1, Same.rd e h2, RpTs.mono e ts k h3⟩
  | .dic kvs, _, _, k, ⟨a, ws, o', h1, h2, h3, h4⟩ => ⟨a, ws, o', h1, by rw [k a (by rw [h4]; simp)]; exact h2, RpTk.mono e kvs (fun b hb => k b (by rw [h4]; simp [hb])) h3, h4⟩
  | .dit kvs, _, _, k, ⟨a, ws, o', h1, h2, h3, h4⟩ => ⟨a, ws, o', h1, by rw [k a (by rw [h4]; simp)]; exact h2, RpTt.mono e kvs (fun b hb => k b (by rw [h4]; simp [hb])) h3, h4⟩
  | .obj n fs, _, _, k, ⟨a, C, dx, ws, o', h1, h0, h2, h3, h4⟩ => ⟨a, C, dx, ws, o', h1, h0, by rw [k a (by rw [h4]; simp)]; exact h2, RpTf.mono e fs (fun b hb => k b (by rw [h4]; simp [hb])) h3, h4⟩
  | .box a t, _, _, k, ⟨h1, h2⟩ => ⟨h1, Rp.mono e t k h2⟩
  | .al a, _, _, _, h => h
theorem RpTs.mono (e : Same G G') : ∀ (ts : List T) {vs : List V} {o : List Addr}, (∀ a ∈ o, H' a = H a) → RpTs K G H ts vs o → RpTs K G' H' ts vs o
  | [], _, _, _, h => h
  | t :: ts, _, _, k, ⟨v, r, o1, o2, h1, h2, h3, h4⟩ => ⟨v, r, o1, o2, h1, Rp.mono e t (fun b hb => k b (by rw [h4]; simp [hb])) h2, RpTs.mono e ts (fun b hb => k b (by rw [h4]; simp [hb])) h3, h4⟩
theorem RpTk.mono (e : Same G G') : ∀ (ts : List (Key × T)) {vs : List (Key × V)} {o : List Addr}, (∀ a ∈ o, H' a = H a) → RpTk K G H ts vs o → RpTk K G' H' ts vs o
  | [], _, _, _, h => h
  | (_, t) :: ts, _, _, k, ⟨v, r, o1, o2, h1, h2, h3, h4⟩ => ⟨v, r, o1, o2, h1, Rp.mono e t (fun b hb => k b (by rw [h4]; simp [hb])) h2, RpTk.mono e ts (fun b hb => k b (by rw [h4]; simp [hb])) h3, h4⟩
theorem RpTt.mono (e : Same G G') : ∀ (ts : List (List Key × T)) {vs : List (List Key × V)} {o : List Addr}, (∀ a ∈ o, H' a = H a) → RpTt K G H ts vs o → RpTt K G' H' ts vs o
  | [], _, _, _, h => h
  | (_, t) :: ts, _, _, k, ⟨v, r, o1, o2, h1, h2, h3, h4⟩ => ⟨v, r, o1, o2, h1, Rp.mono e t (fun b hb => k b (by rw [h4]; simp [hb])) h2, RpTt.mono e ts (fun b hb => k b (by rw [h4]; simp [hb])) h3, h4⟩
theorem RpTf.mono (e : Same G G') : ∀ (ts : List (Str × T)) {vs : List (Str × V)} {o : List Addr}, (∀ a ∈ o, H' a = H a) → RpTf K G H ts vs o → RpTf K G' H' ts vs o
  | [], _, _, _, h => h
  | (_, t) :: ts, _, _, k, ⟨v, r, o1, o2, h1, h2, h3, h4⟩ => ⟨v, r, o1, o2, h1, Rp.mono e t (fun b hb => k b (by rw [h4]; simp [hb])) h2, RpTf.mono e ts (fun b hb => k b (by rw [h4]; simp [hb])) h3, h4⟩
end
mutual
theorem Rp.flat {o : List Addr} (e : Same G G') (k : ∀ a ∈ o, G' a = H a) : ∀ (t : T) {v : V}, Rp K G H t v o → RpD K G' t.toD v
  | .p d, _, ⟨h1, h2⟩ => RpD.mono e d h1
  | .lst ts, _, ⟨a, vs, o', h1, h2, h3, h4⟩ => ⟨a, vs, h1, .inl (by rw [k a (by rw [h4]; simp)]; exact h2), RpTs.flat e (fun b hb => k b (by rw [h4]; simp [hb])) ts h3⟩
  | .tup ts, _, ⟨a, vs, h1, h2, h3⟩ => ⟨a, vs, h1, .inl (Same.rd e h2), RpTs.flat e k ts h3⟩
  | .dic kvs, _, ⟨a, ws, o', h1, h2, h3, h4⟩ => ⟨a, ws, h1, .inl (by rw [k a (by rw [h4]; simp)]; exact h2), RpTk.flat e (fun b hb => k b (by rw [h4]; simp [hb])) kvs h3⟩
  | .dit kvs, _, ⟨a, ws, o', h1, h2, h3, h4⟩ => ⟨a, ws, h1, .inl (by rw [k a (by rw [h4]; simp)]; exact h2), RpTt.flat e (fun b hb => k b (by rw [h4]; simp [hb])) kvs h3⟩
  | .obj n fs, _, ⟨a, C, dx, ws, o', h1, h0, h2, h3, h4⟩ => ⟨a, C, dx, ws, h1, h0, (by rw [k a (by rw [h4]; simp)]; exact h2), RpTf.flat e (fun b hb => k b (by rw [h4]; simp [hb])) fs h3⟩
  | .box a t, _, ⟨h1, h2⟩ => Rp.flat e k t h2
  | .al a, _, ⟨h1, h2⟩ => h1
theorem RpTs.flat {o : List Addr} (e : Same G G') (k : ∀ a ∈ o, G' a = H a) : ∀ (ts : List T) {vs : List V}, RpTs K G H ts vs o → RpDs K G' (T.toDs ts) vs
  | [], _, ⟨h, _⟩ => h
  | t :: ts, _, ⟨v, r, o1, o2, h1, h2, h3, h4⟩ => ⟨v, r, h1, Rp.flat e (fun b hb => k b (by rw [h4]; simp [hb])) t h2, RpTs.flat e (fun b hb => k b (by rw [h4]; simp [hb])) ts h3⟩
theorem RpTk.flat {o : List Addr} (e : Same G G') (k : ∀ a ∈ o, G' a = H a) : ∀ (ts : List (Key × T)) {vs : List (Key × V)}, RpTk K G H ts vs o → RpKs K G' (T.toKs ts) vs
  | [], _, ⟨h, _⟩ => h
  | (_, t) :: ts, _, ⟨v, r, o1, o2, h1, h2, h3, h4⟩ => ⟨v, r, h1, Rp.flat e (fun b hb => k b (by rw [h4]; simp [hb])) t h2, RpTk.flat e (fun b hb => k b (by rw [h4]; simp [hb])) ts h3⟩
theorem RpTt.flat {o : List Addr} (e : Same G G') (k : ∀ a ∈ o, G' a = H a) : ∀ (ts : List (List Key × T)) {vs : List (List Key × V)}, RpTt K G H ts vs o → RpKt K G' (T.toKt ts) vs
  | [], _, ⟨h, _⟩ => h
  | (_, t) :: ts, _, ⟨v, r, o1, o2, h1, h2, h3, h4⟩ => ⟨v, r, h1, Rp.flat e (fun b hb => k b (by rw [h4]; simp [hb])) t h2, RpTt.flat e (fun b hb => k b (by rw [h4]; simp [hb])) ts h3⟩
theorem RpTf.flat {o : List Addr} (e : Same G G') (k : ∀ a ∈ o, G' a = H a) : ∀ (ts : List (Str × T)) {vs : List (Str × V)}, RpTf K G H ts vs o → RpKf K G' (T.toKf ts) vs
  | [], _, ⟨h, _⟩ => h
  | (_, t) :: ts, _, ⟨v, r, o1, o2, h1, h2, h3, h4⟩ => ⟨v, r, h1, Rp.flat e (fun b hb => k b (by rw [h4]; simp [hb])) t h2, RpTf.flat e (fun b hb => k b (by rw [h4]; simp [hb])) ts h3⟩
end
mutual
theorem Rp.there : ∀ (t : T) {v : V} {o : List Addr}, Rp K G H t v o → ∀ a ∈ o, ∃ u, H a = some u ∧ ∀ xs, u ≠ .tup xs
  | .p d, _, _, ⟨h1, h2⟩, b, hb => by rw [h2] at hb; cases hb
  | .lst ts, _, _, ⟨a, vs, o', h1, h2, h3, h4⟩, b, hb => by
    rw [h4] at hb
    rcases List.mem_cons.mp hb with e | hb
    · rw [e]; exact ⟨_, h2, fun xs z => by cases z⟩
    · exact RpTs.there ts h3 b hb
  | .tup ts, _, _, ⟨a, vs, h1, h2, h3⟩, b, hb => RpTs.there ts h3 b hb
  | .dic kvs, _, _, ⟨a, ws, o', h1, h2, h3, h4⟩, b, hb => by
    rw [h4] at hb
    rcases List.mem_cons.mp hb with e | hb
    · rw [e]; exact ⟨_, h2, fun xs z => by cases z⟩
    · exact RpTk.there kvs h3 b hb
  | .dit kvs, _, _, ⟨a, ws, o', h1, h2, h3, h4⟩, b, hb => by
    rw [h4] at hb
    rcases List.mem_cons.mp hb with e | hb
    · rw [e]; exact ⟨_, h2, fun xs z => by cases z⟩
    · exact RpTt.there kvs h3 b hb
  | .obj n kvs, _, _, ⟨a, C, dx, ws, o', h1, h0, h2, h3, h4⟩, b, hb => by
    rw [h4] at hb
    rcases List.mem_cons.mp hb with e | hb
    · rw [e]; exact ⟨_, h2, fun xs z => by cases z⟩
    · exact RpTf.there kvs h3 b hb
  | .box a t, _, _, ⟨h1, h2⟩, b, hb => Rp.there t h2 b hb
  | .al a, _, _, ⟨h1, h2⟩, b, hb => by rw [h2] at hb; cases hb
theorem RpTs.there : ∀ (ts : List T) {vs : List V} {o : List Addr}, RpTs K G H ts vs o → ∀ a ∈ o, ∃ u, H a = some u ∧ ∀ xs, u ≠ .tup xs
  | [], _, _, ⟨_, h⟩, b, hb => by rw [h] at hb; cases hb
  | t :: ts, _, _, ⟨v, r, o1, o2, h1, h2, h3, h4⟩, b, hb => by
    rw [h4] at hb
    rcases List.mem_append.mp hb with hb | hb
    · exact Rp.there t h2 b hb
    · exact RpTs.there ts h3 b hb
theorem RpTk.there : ∀ (ts : List (Key × T)) {vs : List (Key × V)} {o : List Addr}, RpTk K G H ts vs o → ∀ a ∈ o, ∃ u, H a = some u ∧ ∀ xs, u ≠ .tup xs
  | [], _, _, ⟨_, h⟩, b, hb => by rw [h] at hb; cases hb
  | (_, t) :: ts, _, _, ⟨v, r, o1, o2, h1, h2, h3, h4⟩, b, hb => by
    rw [h4] at hb
    rcases List.mem_append.mp hb with hb | hb
    · exact Rp.there t h2 b hb
    · exact RpTk.there ts h3 b hb
theorem RpTt.there : ∀ (ts : List (List Key × T)) {vs : List (List Key × V)} {o : List Addr}, RpTt K G H ts vs o → ∀ a ∈ o, ∃ u, H a = some u ∧ ∀ xs, u ≠ .tup xs
  | [], _, _, ⟨_, h⟩, b, hb => by rw [h] at hb; cases hb
  | (_, t) :: ts, _, _, ⟨v, r, o1, o2, h1, h2, h3, h4⟩, b, hb => by
    rw [h4] at hb
    rcases List.mem_append.mp hb with hb | hb
    · exact Rp.there t h2 b hb
    · exact RpTt.there ts h3 b hb
theorem RpTf.there : ∀ (ts : List (Str × T)) {vs : List (Str × V)} {o : List Addr}, RpTf K G H ts vs o → ∀ a ∈ o, ∃ u, H a = some u ∧ ∀ xs, u ≠ .tup xs
  | [], _, _, ⟨_, h⟩, b, hb => by rw [h] at hb; cases hb
  | (_, t) :: ts, _, _, ⟨v, r, o1, o2, h1, h2, h3, h4⟩, b, hb => by
    rw [h4] at hb
    rcases List.mem_append.mp hb with hb | hb
    · exact Rp.there t h2 b hb
    · exact RpTf.there ts h3 b hb
end
theorem RpTs.len : ∀ {ts : List T} {vs : List V} {o : List Addr}, RpTs K G H ts vs o → vs.length = ts.length
  | [], _, _, ⟨h, _⟩ => by rw [h]; rfl
  | t :: ts, _, _, ⟨v, r, o1, o2, h1, h2, h3, h4⟩ => by rw [h1, List.length_cons, List.length_cons, RpTs.len h3]
theorem RpTs.append : ∀ {ts us : List T} {vs ws : List V} {o o' : List Addr}, RpTs K G H ts vs o → RpTs K G H us ws o' → RpTs K G H (ts ++ us) (vs ++ ws) (o ++ o')
  | [], _, _, _, _, _, ⟨h, h2⟩, h' => by rw [h, h2]; exact h'
  | t :: ts, _, _, _, _, _, ⟨v, r, o1, o2, h1, h2, h3, h4⟩, h' => by
    subst h1; subst h4
    exact ⟨v, r ++ _, o1, o2 ++ _, rfl, h2, RpTs.append h3 h', by simp⟩
theorem rpTs_p : ∀ {ds : List D} {vs : List V}, RpDs K G ds vs → RpTs K G H (ds.map T.p) vs []
  | [], _, h => ⟨h, rfl⟩
  | d :: ds, _, ⟨v, r, h1, h2, h3⟩ => ⟨v, r, [], [], h1, ⟨h2, rfl⟩, rpTs_p h3, rfl⟩

/-- the names' values -/
abbrev Env := List (Option T)
def RpE (K : PySem.W.Frag) (G H : Hp) : Env → St → List Addr → Prop
  | [], σ, o => σ = [] ∧ o = []
  | none :: es, σ, o => ∃ x r, σ = x :: r ∧ RpE K G H es r o
  | some t :: es, σ, o => ∃ v r o1 o2, σ = some v :: r ∧ Rp K G H t v o1 ∧ RpE K G H es r o2 ∧ o = o1 ++ o2
theorem RpE.mono (e : Same G G') : ∀ (es : Env) {σ : St} {o : List Addr}, (∀ a ∈ o, H' a = H a) → RpE K G H es σ o → RpE K G' H' es σ o
  | [], _, _, _, h => h
  | none :: es, _, _, k, ⟨x, r, h1, h2⟩ => ⟨x, r, h1, RpE.mono e es k h2⟩
  | some t :: es, _, _, k, ⟨v, r, o1, o2, h1, h2, h3, h4⟩ => ⟨v, r, o1, o2, h1, Rp.mono e t (fun b hb => k b (by rw [h4]; simp [hb])) h2, RpE.mono e es (fun b hb => k b (by rw [h4]; simp [hb])) h3, h4⟩
theorem RpE.there : ∀ (es : Env) {σ : St} {o : List Addr}, RpE K G H es σ o → ∀ a ∈ o, ∃ u, H a = some u ∧ ∀ xs, u ≠ .tup xs
  | [], _, _, ⟨_, h⟩, b, hb => by rw [h] at hb; cases hb
  | none :: es, _, _, ⟨x, r, h1, h2⟩, b, hb => RpE.there es h2 b hb
  | some t :: es, _, _, ⟨v, r, o1, o2, h1, h2, h3, h4⟩, b, hb => by
    rw [h4] at hb
    rcases List.mem_append.mp hb with hb | hb
    · exact Rp.there t h2 b hb
    · exact RpE.there es h3 b hb
theorem RpE.len : ∀ {es : Env} {σ : St} {o : List Addr}, RpE K G H es σ o → σ.length = es.length
  | [], _, _, ⟨h, _⟩ => by rw [h]; rfl
  | none :: es, _, _, ⟨x, r, h1, h2⟩ => by rw [h1, List.length_cons, List.length_cons, RpE.len h2]
  | some t :: es, _, _, ⟨v, r, o1, o2, h1, h2, h3, h4⟩ => by rw [h1, List.length_cons, List.length_cons, RpE.len h3]
theorem perm_mid {α : Type} (a b c : List α) : (a ++ (b ++ c)).Perm (b ++ (a ++ c)) := by
  rw [← List.append_assoc, ← List.append_assoc]
  exact List.Perm.append_right _ List.perm_append_comm
/-- one name taken out -/
theorem RpE.take : ∀ {es : Env} {σ : St} {o : List Addr} {i : Nat} {t : T}, RpE K G H es σ o → es[i]? = some (some t) →
    ∃ v o1 o2, σ[i]? = some (some v) ∧ Rp K G H t v o1 ∧ RpE K G H (es.set i none) σ o2 ∧ o.Perm (o1 ++ o2)
  | [], _, _, _, _, _, e => by simp at e
  | none :: es, _, _, 0, _, _, e => by simp at e
  | none :: es, _, _, i + 1, t, ⟨x, r, h1, h2⟩, e => by
    subst h1
    obtain ⟨v, o1, o2, g1, g2, g3, g4⟩ := RpE.take (i := i) h2 (by simpa using e)
    exact ⟨v, o1, o2, by simpa using g1, g2, ⟨x, r, rfl, g3⟩, g4⟩
  | some u :: es, _, _, 0, t, ⟨v, r, o1, o2, h1, h2, h3, h4⟩, e => by
    subst h1
    simp at e; subst e
    exact ⟨v, o1, o2, rfl, h2, ⟨_, _, rfl, h3⟩, by rw [h4]⟩
  | some u :: es, _, _, i + 1, t, ⟨v, r, o1, o2, h1, h2, h3, h4⟩, e => by
    subst h1
    obtain ⟨w, p1, p2, g1, g2, g3, g4⟩ := RpE.take (i := i) h3 (by simpa using e)
    refine ⟨w, p1, o1 ++ p2, by simpa using g1, g2, ⟨v, r, o1, p2, rfl, h2, g3, rfl⟩, ?_⟩
    rw [h4]
    exact (List.Perm.append_left o1 g4).trans (perm_mid _ _ _)
/-- .. put in -/
theorem RpE.put : ∀ {es : Env} {σ : St} {o : List Addr} {i : Nat} {t : T} {v : V} {o1 : List Addr}, RpE K G H es σ o → i < es.length → (∀ u, es[i]? ≠ some (some u)) → Rp K G H t v o1 →
    ∃ o2, RpE K G H (es.set i (some t)) (σ.set i (some v)) o2 ∧ o2.Perm (o1 ++ o)
  | [], _, _, _, _, _, _, _, hl, _, _ => by simp at hl
  | none :: es, _, o, 0, t, v, o1, ⟨x, r, h1, h2⟩, _, _, h => by
    subst h1
    exact ⟨o1 ++ o, ⟨v, r, o1, o, rfl, h, h2, rfl⟩, .refl _⟩
  | none :: es, _, o, i + 1, t, v, o1, ⟨x, r, h1, h2⟩, hl, hn, h => by
    subst h1
    obtain ⟨o2, g1, g2⟩ := RpE.put (i := i) h2 (by simpa using hl) (fun u z => hn u (by simpa using z)) h
    exact ⟨o2, ⟨x, _, rfl, g1⟩, g2⟩
  | some u :: es, _, _, 0, t, v, o1, _, _, hn, _ => absurd rfl (hn u)
  | some u :: es, _, _, i + 1, t, v, o1, ⟨w, r, p1, p2, h1, h2, h3, h4⟩, hl, hn, h => by
    subst h1
    obtain ⟨o2, g1, g2⟩ := RpE.put (i := i) h3 (by simpa using hl) (fun u z => hn u (by simpa using z)) h
    refine ⟨p1 ++ o2, ⟨w, _, p1, o2, rfl, h2, g1, rfl⟩, ?_⟩
    rw [h4]
    exact (List.Perm.append_left p1 g2).trans (perm_mid _ _ _)
/-- .. forgotten -/
theorem RpE.drop {es : Env} {σ : St} {o : List Addr} (i : Nat) (h : RpE K G H es σ o) : ∃ o1 o2, RpE K G H (es.set i none) σ o2 ∧ o.Perm (o1 ++ o2) := by
  by_cases hi : ∃ t, es[i]? = some (some t)
  · obtain ⟨t, ht⟩ := hi
    obtain ⟨v, o1, o2, g1, g2, g3, g4⟩ := h.take ht
    exact ⟨o1, o2, g3, g4⟩
  · refine ⟨[], o, ?_, .refl _⟩
    by_cases hl : i < es.length
    · have e : es[i]? = some none := by
        cases q : es[i]? with
        | none => rw [List.getElem?_eq_none_iff] at q; omega
        | some x =>
          cases x with
          | none => rfl
          | some t => exact absurd ⟨t, q⟩ hi
      have : es.set i none = es := by
        obtain ⟨h1, e2⟩ := List.getElem?_eq_some_iff.mp e
        rw [← e2]
        exact List.set_getElem_self h1
      rw [this]; exact h
    · rw [List.set_eq_of_length_le (by omega)]; exact h
/-- any slot's value may be another where nothing is known of it -/
theorem RpE.slot : ∀ {es : Env} {σ : St} {o : List Addr} {i : Nat} (x : Option V), RpE K G H es σ o → (∀ u, es[i]? ≠ some (some u)) → RpE K G H es (σ.set i x) o
  | [], _, _, _, _, ⟨h, h2⟩, _ => by rw [h]; exact ⟨by simp, h2⟩
  | none :: es, _, o, 0, x, ⟨y, r, h1, h2⟩, _ => by subst h1; exact ⟨x, r, rfl, h2⟩
  | none :: es, _, o, i + 1, x, ⟨y, r, h1, h2⟩, hn => by
    subst h1
    exact ⟨y, _, rfl, RpE.slot x h2 fun u z => hn u (by simpa using z)⟩
  | some u :: es, _, _, 0, x, _, hn => absurd rfl (hn u)
  | some u :: es, _, _, i + 1, x, ⟨w, r, p1, p2, h1, h2, h3, h4⟩, hn => by
    subst h1
    exact ⟨w, _, p1, p2, rfl, h2, RpE.slot x h3 (fun u z => hn u (by simpa using z)), h4⟩
end
end DL

set_option Elab.async false
set_option linter.all false
set_option maxRecDepth 100000
namespace DL
open PySem PySem.Spec PyProof.Rows L2

structure St0 (K : PySem.W.Frag) (G0 H0 : Hp) (W : List (T × V)) (G H : Hp) (ts : List T) (vs : List V) (env : Env) (σ : St) (ot oe : List Addr) : Prop where
  tmp : RpTs K G H ts vs ot
  env : RpE K G H env σ oe
  nd : (ot ++ oe).Nodup
  fr : ∀ a ∈ ot ++ oe, G a = none ∧ H0 a = none
  g0 : Same G0 G
  gh : Same G H
  h0 : Same H0 H
  nw : ∀ a o, G a = some o → G0 a ≠ none ∨ H0 a = none ∨ ∃ xs, o = .tup xs
  vw : ∀ q ∈ W, ∃ o, Rp K G H q.1 q.2 o
def OkS (K : PySem.W.Frag) (G0 H0 : Hp) (W : List (T × V)) (H : Hp) (ts : List T) (vs : List V) (env : Env) (σ : St) : Prop :=
  ∃ G ot oe, St0 K G0 H0 W G H ts vs env σ ot oe

section
variable {K : PySem.W.Frag} {G0 H0 H : Hp} {W : List (T × V)} {ts : List T} {vs : List V} {env : Env} {σ : St} {t : T} {v : V}

theorem OkS.scal {z : D} {u : V} (S : OkS K G0 H0 W H ts vs env σ) (h : ∀ G, RpD K G z u) : OkS K G0 H0 W H (.p z :: ts) (u :: vs) env σ := by
  obtain ⟨G, ot, oe, s⟩ := S
  exact ⟨G, ot, oe, ⟨u, vs, [], ot, rfl, ⟨h G, rfl⟩, s.tmp, rfl⟩, s.env, s.nd, s.fr, s.g0, s.gh, s.h0, s.nw, s.vw⟩
theorem OkS.pop (S : OkS K G0 H0 W H (t :: ts) (v :: vs) env σ) : OkS K G0 H0 W H ts vs env σ := by
  obtain ⟨G, ot, oe, s⟩ := S
  obtain ⟨u, r, o1, o2, h1, h2, h3, h4⟩ := s.tmp
  cases h1
  subst h4
  have nd := s.nd
  rw [List.append_assoc] at nd
  exact ⟨G, o2, oe, h3, s.env, (List.nodup_append.mp nd).2.1, fun a ha => s.fr a (by rw [List.append_assoc]; exact List.mem_append_right _ ha), s.g0, s.gh, s.h0, s.nw, s.vw⟩
theorem OkS.unview {q : T × V} (S : OkS K G0 H0 (q :: W) H ts vs env σ) : OkS K G0 H0 W H ts vs env σ := by
  obtain ⟨G, ot, oe, s⟩ := S
  exact ⟨G, ot, oe, s.tmp, s.env, s.nd, s.fr, s.g0, s.gh, s.h0, s.nw, fun q hq => s.vw q (List.mem_cons_of_mem _ hq)⟩
theorem OkS.noview (S : OkS K G0 H0 W H ts vs env σ) : OkS K G0 H0 [] H ts vs env σ := by
  obtain ⟨G, ot, oe, s⟩ := S
  exact ⟨G, ot, oe, s.tmp, s.env, s.nd, s.fr, s.g0, s.gh, s.h0, s.nw, fun q hq => by cases hq⟩
/-- the value on top, looked at -/
theorem OkS.toview (S : OkS K G0 H0 W H (t :: ts) (v :: vs) env σ) : OkS K G0 H0 ((t, v) :: W) H ts vs env σ := by
  have S' := S.pop
  obtain ⟨G, ot, oe, s⟩ := S
  obtain ⟨u, r, o1, o2, h1, h2, h3, h4⟩ := s.tmp
  cases h1
  subst h4
  have nd := s.nd
  rw [List.append_assoc] at nd
  exact ⟨G, o2, oe, h3, s.env, (List.nodup_append.mp nd).2.1, fun a ha => s.fr a (by rw [List.append_assoc]; exact List.mem_append_right _ ha), s.g0, s.gh, s.h0, s.nw, fun q hq => by
    rcases List.mem_cons.mp hq with e | hq
    · subst e; exact ⟨o1, h2⟩
    · exact s.vw q hq⟩
/-- a looked-at value that is pure, as a value -/
theorem OkS.ofview {d : D} (S : OkS K G0 H0 ((.p d, v) :: W) H ts vs env σ) : OkS K G0 H0 W H (.p d :: ts) (v :: vs) env σ := by
  obtain ⟨G, ot, oe, s⟩ := S
  obtain ⟨o, h, ho⟩ := s.vw (.p d, v) (by simp)
  exact ⟨G, ot, oe, ⟨v, vs, [], ot, rfl, ⟨h, rfl⟩, s.tmp, rfl⟩, s.env, s.nd, s.fr, s.g0, s.gh, s.h0, s.nw, fun q hq => s.vw q (List.mem_cons_of_mem _ hq)⟩
/-- a view as data -/
theorem OkS.see (S : OkS K G0 H0 W H ts vs env σ) {q : T × V} (hq : q ∈ W) : RpD K H q.1.toD q.2 := by
  obtain ⟨G, ot, oe, s⟩ := S
  obtain ⟨o, h⟩ := s.vw q hq
  exact h.flat s.gh (fun a _ => rfl) _
theorem OkS.top (S : OkS K G0 H0 W H (t :: ts) (v :: vs) env σ) : RpD K H t.toD v := S.toview.see (by simp : (t, v) ∈ _)
theorem OkS.get {i : Nat} (S : OkS K G0 H0 W H ts vs env σ) (e : env[i]? = some (some t)) : ∃ v, σ[i]? = some (some v) ∧ OkS K G0 H0 W H (t :: ts) (v :: vs) (env.set i none) σ := by
  obtain ⟨G, ot, oe, s⟩ := S
  obtain ⟨v, o1, o2, h1, h2, h3, h4⟩ := s.env.take e
  have pm : (ot ++ oe).Perm ((o1 ++ ot) ++ o2) := by
    rw [List.append_assoc]
    exact (List.Perm.append_left ot h4).trans (perm_mid _ _ _)
  exact ⟨v, h1, G, o1 ++ ot, o2, ⟨v, vs, o1, ot, rfl, h2, s.tmp, rfl⟩, h3, pm.nodup_iff.mp s.nd, fun a ha => s.fr a (pm.mem_iff.mpr ha), s.g0, s.gh, s.h0, s.nw, s.vw⟩
theorem OkS.look {i : Nat} (S : OkS K G0 H0 W H ts vs env σ) (e : env[i]? = some (some t)) : ∃ v, σ[i]? = some (some v) ∧ OkS K G0 H0 ((t, v) :: W) H ts vs env σ := by
  obtain ⟨G, ot, oe, s⟩ := S
  obtain ⟨v, o1, o2, h1, h2, h3, h4⟩ := s.env.take e
  exact ⟨v, h1, G, ot, oe, s.tmp, s.env, s.nd, s.fr, s.g0, s.gh, s.h0, s.nw, fun q hq => by
    rcases List.mem_cons.mp hq with e | hq
    · subst e; exact ⟨o1, h2⟩
    · exact s.vw q hq⟩
theorem OkS.put {i : Nat} (S : OkS K G0 H0 W H (t :: ts) (v :: vs) env σ) (hl : i < env.length) : OkS K G0 H0 W H ts vs (env.set i (some t)) (σ.set i (some v)) := by
  obtain ⟨G, ot, oe, s⟩ := S
  obtain ⟨u, r, o1, o2, h1, h2, h3, h4⟩ := s.tmp
  cases h1
  subst h4
  obtain ⟨p1, p2, g1, g2⟩ := s.env.drop i
  have hn : ∀ u, (env.set i none)[i]? ≠ some (some u) := fun u z => by
    rw [List.getElem?_set_self hl] at z; cases z
  obtain ⟨p3, g3, g4⟩ := g1.put (i := i) (t := t) (v := v) (by simpa using hl) hn h2
  have g5 : (env.set i none).set i (some t) = env.set i (some t) := by simp
  rw [g5] at g3
  have pm : (o1 ++ o2 ++ oe).Perm (p1 ++ (o2 ++ p3)) := by
    have e1 : (o1 ++ o2 ++ oe).Perm (o1 ++ o2 ++ (p1 ++ p2)) := List.Perm.append_left _ g2
    have e2 : (p1 ++ (o2 ++ p3)).Perm (p1 ++ (o2 ++ (o1 ++ p2))) := List.Perm.append_left _ (List.Perm.append_left _ g4)
    refine e1.trans (List.Perm.trans ?_ e2.symm)
    have e3 : (o1 ++ o2 ++ (p1 ++ p2)).Perm (p1 ++ ((o1 ++ o2) ++ p2)) := perm_mid _ _ _
    refine e3.trans (List.Perm.append_left _ ?_)
    rw [List.append_assoc]
    exact perm_mid _ _ _
  have nd2 := pm.nodup_iff.mp s.nd
  exact ⟨G, o2, p3, h3, g3, (List.nodup_append.mp nd2).2.1, fun a ha => s.fr a (pm.mem_iff.mpr (List.mem_append_right _ ha)), s.g0, s.gh, s.h0, s.nw, s.vw⟩
/-- from now on it is not changed -/
theorem OkS.frz (S : OkS K G0 H0 W H (t :: ts) (v :: vs) env σ) : OkS K G0 H0 W H (.p t.toD :: ts) (v :: vs) env σ := by
  obtain ⟨G, ot, oe, s⟩ := S
  obtain ⟨u, r, o1, o2, h1, h2, h3, h4⟩ := s.tmp
  cases h1
  subst h4
  have nd := s.nd
  rw [List.append_assoc] at nd
  have gn : ∀ a ∈ o1, G a = none := fun a ha => (s.fr a (List.mem_append_left _ (List.mem_append_left _ ha))).1
  have sm : Same G (fun a => if a ∈ o1 then H a else G a) := fun b u e => by
    show (if b ∈ o1 then H b else G b) = _
    by_cases hb : b ∈ o1
    · rw [gn b hb] at e; cases e
    · rw [if_neg hb]; exact e
  refine ⟨fun a => if a ∈ o1 then H a else G a, o2, oe, ⟨v, vs, [], o2, rfl, ⟨h2.flat sm (fun a ha => if_pos ha) _, rfl⟩, h3.mono sm _ (fun _ _ => rfl), rfl⟩, s.env.mono sm _ (fun _ _ => rfl), (List.nodup_append.mp nd).2.1, fun a ha => ?_, ?_, fun b u e => ?_, s.h0, fun b u e => ?_, fun q hq => ?_⟩
  · have hx := s.fr a (by rw [List.append_assoc]; exact List.mem_append_right _ ha)
    refine ⟨?_, hx.2⟩
    show (if a ∈ o1 then H a else G a) = none
    have : a ∉ o1 := fun z => (List.nodup_append.mp nd).2.2 a z a ha rfl
    rw [if_neg this]; exact hx.1
  · intro b u e; exact sm b u (s.g0 b u e)
  · have e' : (if b ∈ o1 then H b else G b) = some u := e
    by_cases hb : b ∈ o1
    · rw [if_pos hb] at e'; exact e'
    · rw [if_neg hb] at e'; exact s.gh b u e'
  · have e' : (if b ∈ o1 then H b else G b) = some u := e
    by_cases hb : b ∈ o1
    · exact .inr (.inl (s.fr b (List.mem_append_left _ (List.mem_append_left _ hb))).2)
    · rw [if_neg hb] at e'; exact s.nw b u e'
  · obtain ⟨o, h⟩ := s.vw q hq
    exact ⟨o, h.mono sm _ fun _ _ => rfl⟩
/-- the order of what is held -/
theorem RpTs.mid {G : Hp} : ∀ {us : List T} {ws : List V} {x : T} {y : V} {o : List Addr}, ws.length = us.length → RpTs K G H (us ++ x :: ts) (ws ++ y :: vs) o → ∃ o', RpTs K G H (x :: (us ++ ts)) (y :: (ws ++ vs)) o' ∧ o.Perm o'
  | [], ws, x, y, o, hl, h => by
    cases ws with
    | nil => exact ⟨o, h, .refl _⟩
    | cons _ _ => simp at hl
  | u :: us, ws, x, y, o, hl, h => by
    cases ws with
    | nil => simp at hl
    | cons w ws =>
      obtain ⟨v, r, o1, o2, h1, h2, h3, h4⟩ := h
      cases h1
      obtain ⟨o', ⟨v', r', p1, p2, g1, g2, g3, g4⟩, pm⟩ := RpTs.mid (us := us) (ws := ws) (by simpa using hl) h3
      cases g1
      refine ⟨p1 ++ (o1 ++ p2), ⟨y, _, p1, o1 ++ p2, rfl, g2, ⟨w, _, o1, p2, rfl, h2, g3, rfl⟩, rfl⟩, ?_⟩
      rw [h4]
      refine (List.Perm.append_left o1 pm).trans ?_
      rw [g4]
      exact perm_mid _ _ _
theorem OkS.mid {us : List T} {ws : List V} {x : T} {y : V} (hl : ws.length = us.length) (S : OkS K G0 H0 W H (us ++ x :: ts) (ws ++ y :: vs) env σ) : OkS K G0 H0 W H (x :: us ++ ts) (y :: ws ++ vs) env σ := by
  obtain ⟨G, ot, oe, s⟩ := S
  obtain ⟨o', h, pm⟩ := s.tmp.mid hl
  have pm2 : (ot ++ oe).Perm (o' ++ oe) := List.Perm.append_right _ pm
  exact ⟨G, o', oe, h, s.env, pm2.nodup_iff.mp s.nd, fun a ha => s.fr a (pm2.mem_iff.mpr ha), s.g0, s.gh, s.h0, s.nw, s.vw⟩
theorem RpTs.split {G : Hp} : ∀ {us : List T} {ws : List V} {o : List Addr}, ws.length = us.length → RpTs K G H (us ++ ts) (ws ++ vs) o → ∃ o1 o2, RpTs K G H us ws o1 ∧ RpTs K G H ts vs o2 ∧ o = o1 ++ o2
  | [], ws, o, hl, h => by
    cases ws with
    | nil => exact ⟨[], o, ⟨rfl, rfl⟩, h, rfl⟩
    | cons _ _ => simp at hl
  | u :: us, ws, o, hl, h => by
    cases ws with
    | nil => simp at hl
    | cons w ws =>
      obtain ⟨v, r, o1, o2, h1, h2, h3, h4⟩ := h
      cases h1
      obtain ⟨p1, p2, g1, g2, g3⟩ := RpTs.split (us := us) (ws := ws) (by simpa using hl) h3
      exact ⟨o1 ++ p1, p2, ⟨w, ws, o1, p1, rfl, h2, g1, rfl⟩, g2, by rw [h4, g3, List.append_assoc]⟩
theorem same_upd {H : Hp} {p : Addr} {o : HO} (h : H p = none) : Same H (upd H p o) := fun b x e => by
  rw [upd_ne (ne_of_none e h)]
  exact e
theorem Same.none {H H' : Hp} {p : Addr} (s : Same H H') (h : H' p = none) : H p = none := by
  cases q : H p with
  | none => rfl
  | some u => rw [s p u q] at h; cases h
/-- a new list -/
theorem OkS.newL {us : List T} {ws : List V} {p : Addr} (hl : ws.length = us.length) (S : OkS K G0 H0 W H (us ++ ts) (ws ++ vs) env σ) (hp : H p = none) : OkS K G0 H0 W (upd H p (.lst ws)) (.lst us :: ts) (.ref p :: vs) env σ := by
  obtain ⟨G, ot, oe, s⟩ := S
  obtain ⟨o1, o2, h1, h2, h3⟩ := s.tmp.split hl
  have gp : G p = none := Same.none s.gh hp
  have ne : ∀ a u, H a = some u → a ≠ p := fun a u e z => by rw [z, hp] at e; cases e
  have k1 : ∀ a ∈ o1, upd H p (.lst ws) a = H a := fun a ha => by
    obtain ⟨u, e, _⟩ := h1.there _ a ha
    exact upd_ne (ne a u e)
  have k2 : ∀ a ∈ o2, upd H p (.lst ws) a = H a := fun a ha => by
    obtain ⟨u, e, _⟩ := h2.there _ a ha
    exact upd_ne (ne a u e)
  have k3 : ∀ a ∈ oe, upd H p (.lst ws) a = H a := fun a ha => by
    obtain ⟨u, e, _⟩ := s.env.there _ a ha
    exact upd_ne (ne a u e)
  have all : ∀ a ∈ ot ++ oe, ∃ u, H a = some u := fun a ha => by
    rcases List.mem_append.mp ha with ha | ha
    · obtain ⟨u, e, _⟩ := s.tmp.there _ a ha; exact ⟨u, e⟩
    · obtain ⟨u, e, _⟩ := s.env.there _ a ha; exact ⟨u, e⟩
  refine ⟨G, p :: o1 ++ o2, oe, ⟨.ref p, vs, p :: o1, o2, rfl, ⟨p, ws, o1, rfl, upd_same, h1.mono (Same.refl _) _ k1, rfl⟩, h2.mono (Same.refl _) _ k2, rfl⟩, s.env.mono (Same.refl _) _ k3, ?_, fun a ha => ?_, s.g0, fun b u e => ?_, fun b u e => ?_, s.nw, fun q hq => ?_⟩
  · rw [List.cons_append, List.cons_append, ← h3]
    refine List.nodup_cons.mpr ⟨fun z => ?_, s.nd⟩
    obtain ⟨u, e⟩ := all p z
    rw [hp] at e; cases e
  · rw [List.cons_append, List.cons_append, ← h3] at ha
    rcases List.mem_cons.mp ha with e | ha
    · subst e; exact ⟨gp, Same.none s.h0 hp⟩
    · exact s.fr a ha
  · rw [upd_ne (ne b u (s.gh b u e))]; exact s.gh b u e
  · rw [upd_ne (ne b u (s.h0 b u e))]; exact s.h0 b u e
  · obtain ⟨o, h⟩ := s.vw q hq
    refine ⟨o, h.mono (Same.refl _) _ fun a ha => ?_⟩
    obtain ⟨u, e, _⟩ := h.there _ a ha
    exact upd_ne (ne a u e)
def allP : List T → Option (List D)
  | [] => some []
  | .p d :: r => (allP r).map (d :: ·)
  | _ :: _ => none
theorem allP_eq : ∀ {us : List T} {ds : List D}, allP us = some ds → us = ds.map T.p
  | [], ds, h => by cases h; rfl
  | .p d :: r, ds, h => by
    unfold allP at h
    cases q : allP r with
    | none => rw [q] at h; cases h
    | some es =>
      rw [q] at h
      cases h
      rw [allP_eq q]; rfl
  | .lst _ :: r, ds, h => by simp [allP] at h
  | .tup _ :: r, ds, h => by simp [allP] at h
  | .dic _ :: r, ds, h => by simp [allP] at h
  | .dit _ :: r, ds, h => by simp [allP] at h
  | .obj _ _ :: r, ds, h => by simp [allP] at h
  | .box _ _ :: r, ds, h => by simp [allP] at h
  | .al _ :: r, ds, h => by simp [allP] at h
def mkTup (us : List T) : T := match allP us with | some ds => .p (.tup ds) | none => .tup us
theorem rpDs_of {G : Hp} : ∀ {ds : List D} {vs : List V} {o : List Addr}, RpTs K G H (ds.map T.p) vs o → RpDs K G ds vs ∧ o = []
  | [], _, _, ⟨h, h2⟩ => ⟨h, h2⟩
  | d :: ds, _, _, ⟨v, r, o1, o2, h1, h2, h3, h4⟩ => by
    obtain ⟨g1, g2⟩ := rpDs_of h3
    exact ⟨⟨v, r, h1, h2.1, g1⟩, by rw [h4, h2.2, g2]; rfl⟩
/-- a new tuple -/
theorem OkS.newT {us : List T} {ws : List V} {p : Addr} (hl : ws.length = us.length) (S : OkS K G0 H0 W H (us ++ ts) (ws ++ vs) env σ) (hp : H p = none) : OkS K G0 H0 W (upd H p (.tup ws)) (mkTup us :: ts) (.ref p :: vs) env σ := by
  obtain ⟨G, ot, oe, s⟩ := S
  obtain ⟨o1, o2, h1, h2, h3⟩ := s.tmp.split hl
  have gp : G p = none := Same.none s.gh hp
  have ne : ∀ a u, H a = some u → a ≠ p := fun a u e z => by rw [z, hp] at e; cases e
  have all : ∀ a ∈ ot ++ oe, ∃ u, H a = some u := fun a ha => by
    rcases List.mem_append.mp ha with ha | ha
    · obtain ⟨u, e, _⟩ := s.tmp.there _ a ha; exact ⟨u, e⟩
    · obtain ⟨u, e, _⟩ := s.env.there _ a ha; exact ⟨u, e⟩
  have sg : Same G (upd G p (.tup ws)) := same_upd gp
  have k0 : ∀ a ∈ ot ++ oe, upd H p (.tup ws) a = H a := fun a ha => by
    obtain ⟨u, e⟩ := all a ha
    exact upd_ne (ne a u e)
  subst h3
  have k1 : ∀ a ∈ o1, upd H p (.tup ws) a = H a := fun a ha => k0 a (by simp [ha])
  have k2 : ∀ a ∈ o2, upd H p (.tup ws) a = H a := fun a ha => k0 a (by simp [ha])
  have k3 : ∀ a ∈ oe, upd H p (.tup ws) a = H a := fun a ha => k0 a (by simp [ha])
  have tp : Rp K (upd G p (.tup ws)) (upd H p (.tup ws)) (mkTup us) (.ref p) o1 := by
    unfold mkTup
    cases q : allP us with
    | none => exact ⟨p, ws, rfl, .inl upd_same, h1.mono sg _ k1⟩
    | some ds =>
      have e := allP_eq q
      subst e
      obtain ⟨g1, g2⟩ := rpDs_of h1
      exact ⟨⟨p, ws, rfl, .inl (.inl upd_same), RpDs.mono sg _ g1⟩, g2⟩
  refine ⟨upd G p (.tup ws), o1 ++ o2, oe, ⟨.ref p, vs, o1, o2, rfl, tp, h2.mono sg _ k2, rfl⟩, s.env.mono sg _ k3, s.nd, fun a ha => ?_, fun b u e => sg b u (s.g0 b u e), fun b u e => ?_, fun b u e => ?_, fun b u e => ?_, fun q hq => ?_⟩
  · obtain ⟨u, e⟩ := all a ha
    rw [upd_ne (ne a u e)]
    exact s.fr a ha
  · by_cases hb : b = p
    · subst hb; rw [upd_same] at e ⊢; exact e
    · rw [upd_ne hb] at e ⊢; exact s.gh b u e
  · rw [upd_ne (ne b u (s.h0 b u e))]; exact s.h0 b u e
  · by_cases hb : b = p
    · exact .inr (.inl (by rw [hb]; exact Same.none s.h0 hp))
    · rw [upd_ne hb] at e; exact s.nw b u e
  · obtain ⟨o, h⟩ := s.vw q hq
    refine ⟨o, h.mono sg _ fun a ha => ?_⟩
    obtain ⟨u, e, _⟩ := h.there _ a ha
    exact upd_ne (ne a u e)
end
end DL

set_option Elab.async false
set_option linter.all false
set_option maxRecDepth 100000
namespace DL
open PySem PySem.Spec PyProof.Rows L2

abbrev EF := Env → Option (T × Env)
abbrev AF := Env → Option (List T × Env)
abbrev CF := Env → Option (Bool × Env)
def EvT (K : PySem.W.Frag) (te : TE) (f : EF) : Prop := ∀ (G0 H0 : Hp) (W : List (T × V)) (H : Hp) (ts : List T) (vs : List V) (env : Env) (σ : St) (t : T) (env' : Env), OkS K G0 H0 W H ts vs env σ → f env = some (t, env') →
  ∀ Q : VK, (∀ v H', Same H H' → OkS K G0 H0 W H' (t :: ts) (v :: vs) env' σ → Q v H') → te σ H Q
def EvV (K : PySem.W.Frag) (te : TE) (f : EF) : Prop := ∀ (G0 H0 : Hp) (W : List (T × V)) (H : Hp) (ts : List T) (vs : List V) (env : Env) (σ : St) (t : T) (env' : Env), OkS K G0 H0 W H ts vs env σ → f env = some (t, env') →
  ∀ Q : VK, (∀ v H', Same H H' → OkS K G0 H0 ((t, v) :: W) H' ts vs env' σ → Q v H') → te σ H Q
def EvA (K : PySem.W.Frag) (ta : TA) (f : AF) : Prop := ∀ (G0 H0 : Hp) (W : List (T × V)) (H : Hp) (ts : List T) (vs : List V) (env : Env) (σ : St) (us : List T) (env' : Env), OkS K G0 H0 W H ts vs env σ → f env = some (us, env') →
  ∀ Q : List V → Hp → Prop, (∀ ws H', Same H H' → ws.length = us.length → OkS K G0 H0 W H' (us ++ ts) (ws ++ vs) env' σ → Q ws H') → ta σ H Q
def EvC (K : PySem.W.Frag) (tc : TT) (f : CF) : Prop := ∀ (G0 H0 : Hp) (W : List (T × V)) (H : Hp) (ts : List T) (vs : List V) (env : Env) (σ : St) (c : Bool) (env' : Env), OkS K G0 H0 W H ts vs env σ → f env = some (c, env') →
  ∀ Q : Bool → Hp → Prop, (∀ H', Same H H' → OkS K G0 H0 W H' ts vs env' σ → Q c H') → tc σ H Q
structure DT (X : Cx) (e : Expr) (te : TE) (f : EF) : Prop where
  pe : PE X e te
  ok : EvT X.K te f
structure DV (X : Cx) (e : Expr) (te : TE) (f : EF) : Prop where
  pe : PE X e te
  ok : EvV X.K te f
structure DA (X : Cx) (es : List Expr) (ta : TA) (f : AF) : Prop where
  pa : PA X es ta
  ok : EvA X.K ta f
structure DC (X : Cx) (e : Expr) (tc : TT) (f : CF) : Prop where
  pt : PT X e tc
  ok : EvC X.K tc f


section
variable {K : PySem.W.Frag} {G0 H0 H : Hp} {W : List (T × V)} {ts : List T} {vs : List V} {env : Env} {σ : St} {t : T} {v : V}
theorem OkS.dup {d : D} (S : OkS K G0 H0 W H (.p d :: ts) (v :: vs) env σ) : OkS K G0 H0 W H (.p d :: .p d :: ts) (v :: v :: vs) env σ := by
  obtain ⟨G, ot, oe, s⟩ := S
  obtain ⟨u, r, o1, o2, h1, h2, h3, h4⟩ := id s.tmp
  cases h1
  refine ⟨G, ot, oe, ⟨v, _, [], ot, rfl, ⟨h2.1, rfl⟩, s.tmp, rfl⟩, s.env, s.nd, s.fr, s.g0, s.gh, s.h0, s.nw, s.vw⟩
theorem OkS.len (S : OkS K G0 H0 W H ts vs env σ) : σ.length = env.length := by
  obtain ⟨G, ot, oe, s⟩ := S
  exact s.env.len
end
theorem obind {α β : Type} {x : Option α} {f : α → Option β} {y : β} (h : x.bind f = some y) : ∃ a, x = some a ∧ f a = some y := by
  cases x with
  | none => cases h
  | some a => exact ⟨a, rfl, h⟩
theorem omap {α β : Type} {x : Option α} {f : α → β} {y : β} (h : x.map f = some y) : ∃ a, x = some a ∧ f a = y := by
  cases x with
  | none => cases h
  | some a => exact ⟨a, rfl, Option.some.inj h⟩
theorem set_back {α : Type} {l : List α} {i : Nat} {x : α} (h : l[i]? = some x) : l.set i x = l := by
  obtain ⟨h1, e⟩ := List.getElem?_eq_some_iff.mp h
  rw [← e]; exact List.set_getElem_self h1

/-! ### names, constants -/
def eC (d : D) : EF := fun env => some (.p d, env)
def eV (i : Nat) : EF := fun env => match env[i]? with
  | some (some (.p d)) => some (.p d, env)
  | some (some t) => some (.p t.toD, env.set i (some (.p t.toD)))
  | _ => none
def eM (i : Nat) : EF := fun env => match env[i]? with
  | some (some t) => some (t, env.set i none)
  | _ => none
def eB (i : Nat) : EF := fun env => match env[i]? with
  | some (some t) => some (t, env)
  | _ => none
theorem ev_c {K : PySem.W.Frag} {d : D} {v : V} (h : ∀ G, RpD K G d v) : EvT K (tC v) (eC d) := by
  intro G0 H0 W H ts vs env σ t env' S e Q q
  cases e
  exact q v H (Same.refl _) (S.scal h)
theorem ev_v {K : PySem.W.Frag} {i : Nat} : EvT K (tVar i) (eV i) := by
  intro G0 H0 W H ts vs env σ t env' S e Q q
  unfold eV at e
  cases h : env[i]? with
  | none => rw [h] at e; cases e
  | some x =>
    rw [h] at e
    cases x with
    | none => cases e
    | some u =>
      have own : (∀ d, u ≠ .p d) → some (T.p u.toD, env.set i (some (.p u.toD))) = some (t, env') → tVar i σ H Q := fun _ e => by
        cases e
        obtain ⟨v, hv, S1⟩ := S.get h
        have hl : i < env.length := (List.getElem?_eq_some_iff.mp h).1
        have S2 := S1.frz.dup.put (i := i) (by simpa using hl)
        rw [List.set_set, set_back hv] at S2
        exact ⟨v, hv, q v H (Same.refl _) S2⟩
      cases u with
      | p d =>
        cases e
        obtain ⟨v, hv, S1⟩ := S.look h
        exact ⟨v, hv, q v H (Same.refl _) S1.ofview⟩
      | lst us => exact own (fun d z => by cases z) e
      | tup us => exact own (fun d z => by cases z) e
      | dic us => exact own (fun d z => by cases z) e
      | dit us => exact own (fun d z => by cases z) e
      | obj n us => exact own (fun d z => by cases z) e
      | box a us => exact own (fun d z => by cases z) e
      | al a => exact own (fun d z => by cases z) e
theorem ev_m {K : PySem.W.Frag} {i : Nat} : EvT K (tVar i) (eM i) := by
  intro G0 H0 W H ts vs env σ t env' S e Q q
  unfold eM at e
  cases h : env[i]? with
  | none => rw [h] at e; cases e
  | some x =>
    rw [h] at e
    cases x with
    | none => cases e
    | some u =>
      cases e
      obtain ⟨v, hv, S1⟩ := S.get h
      exact ⟨v, hv, q v H (Same.refl _) S1⟩
theorem ev_b {K : PySem.W.Frag} {i : Nat} : EvV K (tVar i) (eB i) := by
  intro G0 H0 W H ts vs env σ t env' S e Q q
  unfold eB at e
  cases h : env[i]? with
  | none => rw [h] at e; cases e
  | some x =>
    rw [h] at e
    cases x with
    | none => cases e
    | some u =>
      cases e
      obtain ⟨v, hv, S1⟩ := S.look h
      exact ⟨v, hv, q v H (Same.refl _) S1⟩
theorem EvT.view {K : PySem.W.Frag} {te : TE} {f : EF} (h : EvT K te f) : EvV K te f := by
  intro G0 H0 W H ts vs env σ t env' S e Q q
  exact h _ _ _ _ _ _ _ _ _ _ S e Q fun v H' s S' => q v H' s S'.toview
/-- a looked-at value, where it is pure -/
def eW (f : EF) : EF := fun env => (f env).bind fun r => match r.1 with | .p d => some (.p d, r.2) | _ => none
theorem EvV.val {K : PySem.W.Frag} {te : TE} {f : EF} (h : EvV K te f) : EvT K te (eW f) := by
  intro G0 H0 W H ts vs env σ t env' S e Q q
  obtain ⟨⟨u, e1⟩, h1, h2⟩ := obind e
  cases u with
  | p d => cases h2; exact h _ _ _ _ _ _ _ _ _ _ S h1 Q fun v H' s S' => q v H' s S'.ofview
  | lst _ => cases h2
  | tup _ => cases h2
  | dic _ => cases h2
  | dit _ => cases h2
  | obj _ _ => cases h2
  | box _ _ => cases h2
  | al _ => cases h2
section
variable {X : Cx} {e a b : Expr} {es : List Expr} {te ta tb : TE} {tr : TA} {f fa fb : EF} {fr : AF} {pos : Pos}
theorem dt_int {i j} : DT X (.Constant (.int i) j pos) (tC (.int i)) (eC (.int i)) := ⟨pe_int, ev_c fun _ => rfl⟩
theorem dt_bl {b j} : DT X (.Constant (.bool b) j pos) (tC (.bl b)) (eC (.bl b)) := ⟨pe_bl, ev_c fun _ => rfl⟩
theorem dt_non {j} : DT X (.Constant .none j pos) (tC .non) (eC .non) := ⟨pe_non, ev_c fun _ => rfl⟩
theorem dt_str {x j} : DT X (.Constant (.str x) j pos) (tC (.str x)) (eC (.str x)) := ⟨pe_str, ev_c fun _ => rfl⟩
theorem dt_v (i : Nat) {x : Str} (hN : X.N[i]? = some x := by rfl) (hv : Vis X.env.scope x := by first | exact Or.inl rfl | exact Or.inr (Or.inl rfl) | exact Or.inr (Or.inr rfl)) (hd : (x == ("__debug__" : Str)) = false := by decide)
    (hcd : (x == ("__classdict__" : Str)) = false := by decide) : DT X (.Name x pos) (tVar i) (eV i) := ⟨pe_var hN hv hd hcd, ev_v⟩
theorem dt_m (i : Nat) {x : Str} (hN : X.N[i]? = some x := by rfl) (hv : Vis X.env.scope x := by first | exact Or.inl rfl | exact Or.inr (Or.inl rfl) | exact Or.inr (Or.inr rfl)) (hd : (x == ("__debug__" : Str)) = false := by decide)
    (hcd : (x == ("__classdict__" : Str)) = false := by decide) : DT X (.Name x pos) (tVar i) (eM i) := ⟨pe_var hN hv hd hcd, ev_m⟩
theorem dv_v (i : Nat) {x : Str} (hN : X.N[i]? = some x := by rfl) (hv : Vis X.env.scope x := by first | exact Or.inl rfl | exact Or.inr (Or.inl rfl) | exact Or.inr (Or.inr rfl)) (hd : (x == ("__debug__" : Str)) = false := by decide)
    (hcd : (x == ("__classdict__" : Str)) = false := by decide) : DV X (.Name x pos) (tVar i) (eB i) := ⟨pe_var hN hv hd hcd, ev_b⟩
theorem DT.dv (h : DT X e te f) : DV X e te f := ⟨h.pe, h.ok.view⟩
theorem DV.dt (h : DV X e te f) : DT X e te (eW f) := ⟨h.pe, h.ok.val⟩

/-! ### arguments, displays -/
def aN : AF := fun env => some ([], env)
def aC (f : EF) (r : AF) : AF := fun env => (f env).bind fun x => (r x.2).map fun y => (x.1 :: y.1, y.2)
theorem da_nil : DA X [] tNil aN := by
  refine ⟨pa_nil, ?_⟩
  intro G0 H0 W H ts vs env σ us env' S e Q q
  cases e
  exact q [] H (Same.refl _) rfl S
theorem da_cons (h : DT X e te f) (hr : DA X es tr fr) (hs : starEach (e :: es) X.env = (false, eval e X.env) :: starEach es X.env := by rfl) : DA X (e :: es) (tCons te tr) (aC f fr) := by
  refine ⟨pa_cons h.pe hr.pa hs, ?_⟩
  intro G0 H0 W H ts vs env σ us env' S g Q q
  obtain ⟨⟨x, e1⟩, h1, h2⟩ := obind g
  obtain ⟨⟨y, e2⟩, h3, h4⟩ := omap h2
  cases h4
  refine h.ok _ _ _ _ _ _ _ _ _ _ S h1 _ fun v H1 s1 S1 => ?_
  refine hr.ok _ _ _ _ _ _ _ _ _ _ S1 h3 _ fun ws H2 s2 hl S2 => ?_
  exact q (v :: ws) H2 (s1.trans s2) (by simp [hl]) (S2.mid hl)
def eL (r : AF) : EF := fun env => (r env).bind fun x => if x.1.length ≤ 1000 then some (.lst x.1, x.2) else none
def eT (r : AF) : EF := fun env => (r env).bind fun x => if x.1.length ≤ 1000 then some (mkTup x.1, x.2) else none
theorem le1000 {n : Nat} (h : n ≤ 1000) : n ≤ sizeLine := by rw [sizeLine_eq]; omega
theorem dt_lst (h : DA X es tr fr) : DT X (.List es pos) (tLst tr) (eL fr) := by
  refine ⟨pe_lst h.pa, ?_⟩
  intro G0 H0 W H ts vs env σ t env' S g Q q
  obtain ⟨⟨x, e1⟩, h1, h2⟩ := obind g
  by_cases hl : x.length ≤ 1000
  · rw [if_pos hl] at h2
    cases h2
    refine h.ok _ _ _ _ _ _ _ _ _ _ S h1 _ fun ws H1 s1 hw S1 => ⟨by rw [hw]; exact le1000 hl, fun p hp => ?_⟩
    exact q _ _ (s1.trans (same_upd hp)) (S1.newL hw hp)
  · rw [if_neg hl] at h2; cases h2
theorem dt_tup {k} (h : DA X es tr fr) : DT X (.Tuple es k pos) (tTup tr) (eT fr) := by
  refine ⟨pe_tup h.pa, ?_⟩
  intro G0 H0 W H ts vs env σ t env' S g Q q
  obtain ⟨⟨x, e1⟩, h1, h2⟩ := obind g
  by_cases hl : x.length ≤ 1000
  · rw [if_pos hl] at h2
    cases h2
    refine h.ok _ _ _ _ _ _ _ _ _ _ S h1 _ fun ws H1 s1 hw S1 => ⟨by rw [hw]; exact le1000 hl, fun p hp => ?_⟩
    exact q _ _ (s1.trans (same_upd hp)) (S1.newT hw hp)
  · rw [if_neg hl] at h2; cases h2

/-! ### operators on scalars -/
def eOp (g : D → D → Option D) (fa fb : EF) : EF := fun env => (fa env).bind fun x => (fb x.2).bind fun y => match x.1, y.1 with
  | .p a, .p b => (g a b).map fun d => (.p d, y.2)
  | _, _ => none
theorem eOp_some {g : D → D → Option D} {t : T} {env env' : Env} (h : eOp g fa fb env = some (t, env')) : ∃ a e1 b d, fa env = some (.p a, e1) ∧ fb e1 = some (.p b, env') ∧ g a b = some d ∧ t = .p d := by
  obtain ⟨⟨x, e1⟩, h1, h2⟩ := obind h
  obtain ⟨⟨y, e2⟩, h3, h4⟩ := obind h2
  cases x with
  | p a =>
    cases y with
    | p b =>
      obtain ⟨d, h5, h6⟩ := omap h4
      cases h6
      exact ⟨a, e1, b, d, h1, h3, h5, rfl⟩
    | lst _ => cases h4
    | tup _ => cases h4
    | dic _ => cases h4
    | dit _ => cases h4
    | obj _ _ => cases h4
    | box _ _ => cases h4
    | al _ => cases h4
  | lst _ => cases h4
  | tup _ => cases h4
  | dic _ => cases h4
  | dit _ => cases h4
  | obj _ _ => cases h4
  | box _ _ => cases h4
  | al _ => cases h4
def Sc2 (r : R2) (g : D → D → Option D) : Prop := ∀ a b d, g a b = some d → ∀ (K : PySem.W.Frag) (H : Hp) (v w : V) (Q : VK), RpD K H a v → RpD K H b w → (∀ u, (∀ G, RpD K G d u) → Q u H) → r v w H Q
theorem ev_op {K : PySem.W.Frag} {r : R2} {g : D → D → Option D} (hs : Sc2 r g) (ha : EvT K ta fa) (hb : EvT K tb fb) : EvT K (tOp r ta tb) (eOp g fa fb) := by
  intro G0 H0 W H ts vs env σ t env' S e Q q
  obtain ⟨a, e1, b, d, h1, h2, h3, rfl⟩ := eOp_some e
  refine ha _ _ _ _ _ _ _ _ _ _ S h1 _ fun v H1 s1 S1 => ?_
  refine hb _ _ _ _ _ _ _ _ _ _ S1 h2 _ fun w H2 s2 S2 => ?_
  exact hs a b d h3 K H2 v w Q S2.pop.top S2.top fun u hu => q u H2 (s1.trans s2) (S2.pop.pop.scal hu)
theorem dt_op {op : Operator} {r : R2} {g : D → D → Option D} (ho : OpR X (binaryOp op) r) (hs : Sc2 r g) (ha : DT X a ta fa) (hb : DT X b tb fb) : DT X (.BinOp a op b pos) (tOp r ta tb) (eOp g fa fb) :=
  ⟨pe_op ho ha.pe hb.pe, ev_op hs ha.ok hb.ok⟩
end
/-- two ints, bounded as the machine asks -/
def gI (c : Int → Int → Bool) (f : Int → Int → Int) : D → D → Option D
  | .int i, .int j => if c i j then some (.int (f i j)) else none
  | _, _ => none
theorem gI_some {c : Int → Int → Bool} {f : Int → Int → Int} {a b d : D} (h : gI c f a b = some d) : ∃ i j, a = .int i ∧ b = .int j ∧ c i j = true ∧ d = .int (f i j) := by
  unfold gI at h
  split at h
  · rename_i i j
    by_cases hc : c i j = true
    · rw [if_pos hc] at h; cases h; exact ⟨i, j, rfl, rfl, hc, rfl⟩
    · rw [if_neg hc] at h; cases h
  · cases h
theorem sc_int {C : Int → Int → Prop} {c : Int → Int → Bool} {f : Int → Int → Int} (hc : ∀ i j, c i j = true → C i j) : Sc2 (rI C fun i j => .int (f i j)) (gI c f) := by
  intro a b d h K H v w Q hv hw q
  obtain ⟨i, j, rfl, rfl, h1, rfl⟩ := gI_some h
  exact ⟨i, j, hv, hw, hc i j h1, q _ fun _ => rfl⟩
theorem sc_int0 {f : Int → Int → Int} : Sc2 (rI0 fun i j => .int (f i j)) (gI (fun _ _ => true) f) := by
  intro a b d h K H v w Q hv hw q
  obtain ⟨i, j, rfl, rfl, h1, rfl⟩ := gI_some h
  exact ⟨i, j, hv, hw, q _ fun _ => rfl⟩
def mulOk (i j : Int) : Bool := decide ((-18446744073709551616 < i ∧ i < 18446744073709551616) ∨ (-18446744073709551616 < j ∧ j < 18446744073709551616) ∨ Builtin.Int.intBits i + Builtin.Int.intBits j ≤ 134217728)
def divOk (_ j : Int) : Bool := decide (0 < j ∧ j < 1606938044258990275541962092341162602522202993782792835301376)
def modOk (_ j : Int) : Bool := decide (0 < j)
def powOk (i j : Int) : Bool := decide (0 ≤ j ∧ j ≤ 1000 ∧ 0 ≤ i ∧ i < 18446744073709551616)
theorem mulOk_ok {i j : Int} (h : mulOk i j = true) : IntMulOk i j := by
  rcases of_decide_eq_true h with h | h | h
  · exact .of_left (intBits_le_64 (by omega) (by omega))
  · exact .of_right (intBits_le_64 (by omega) (by omega))
  · exact PyProof.Rows.mulOk_of_bits (Nat.le_refl _) (Nat.le_refl _) h
section
variable {X : Cx}
theorem op_mulB : OpR X (binaryOp .Mult) (rI IntMulOk fun i j => .int (i * j)) := opI fun _ _ _ _ _ _ _ hc q => mul_int q hc
theorem divOk_ok {i j : Int} (h : divOk i j = true) : CDivW i j := by
  obtain ⟨h1, h2⟩ := of_decide_eq_true h
  refine wide_div h1 (b := 200) ?_ (by decide) (by decide)
  have e : (2 : Nat) ^ 200 = 1606938044258990275541962092341162602522202993782792835301376 := by decide
  rw [e]; omega
theorem powOk_ok {i j : Int} (h : powOk i j = true) : CPow i j := by
  obtain ⟨h1, h2, h3, h4⟩ := of_decide_eq_true h
  refine ⟨h1, by omega, ?_⟩
  omega
end
end DL

set_option Elab.async false
set_option linter.all false
set_option maxRecDepth 100000
namespace DL
open PySem PySem.Spec PyProof.Rows L2

/-! ### statements -/
inductive Fl where
  | nx | rt (t : T) | bk | ct
abbrev SF := Env → Option (Fl × Env)
/-- the names' places outside sl are as they were -/
def Dif (sl : List Nat) (σ σ' : St) : Prop := σ'.length = σ.length ∧ ∀ j, j ∉ sl → σ'[j]? = σ[j]?
theorem Dif.rfl' {sl : List Nat} {σ : St} : Dif sl σ σ := ⟨rfl, fun _ _ => rfl⟩
theorem Dif.set {i : Nat} {σ : St} {x : Option V} : Dif [i] σ (σ.set i x) := ⟨by simp, fun j hj => List.getElem?_set_ne (fun z => hj (by simp [z]))⟩
theorem Dif.tr {s1 s2 : List Nat} {σ σ1 σ2 : St} (a : Dif s1 σ σ1) (b : Dif s2 σ1 σ2) : Dif (s1 ++ s2) σ σ2 := ⟨b.1.trans a.1, fun j hj => (b.2 j fun z => hj (List.mem_append_right _ z)).trans (a.2 j fun z => hj (List.mem_append_left _ z))⟩
theorem Dif.l {s1 s2 : List Nat} {σ σ1 : St} (a : Dif s1 σ σ1) : Dif (s1 ++ s2) σ σ1 := ⟨a.1, fun j hj => a.2 j fun z => hj (List.mem_append_left _ z)⟩
theorem Dif.r {s1 s2 : List Nat} {σ σ1 : St} (a : Dif s2 σ σ1) : Dif (s1 ++ s2) σ σ1 := ⟨a.1, fun j hj => a.2 j fun z => hj (List.mem_append_right _ z)⟩
theorem Dif.two {s : List Nat} {σ σ1 σ2 : St} (a : Dif s σ σ1) (b : Dif s σ1 σ2) : Dif s σ σ2 := ⟨b.1.trans a.1, fun j hj => (b.2 j hj).trans (a.2 j hj)⟩
def Post (K : PySem.W.Frag) (G0 H0 : Hp) (ts : List T) (vs : List V) (D : Ends) (fl : Fl) (env' : Env) (sl : List Nat) (σ : St) : Prop := match fl with
  | .nx => ∀ H' σ', OkS K G0 H0 [] H' ts vs env' σ' → Dif sl σ σ' → D.nx σ' H'
  | .bk => ∀ H' σ', OkS K G0 H0 [] H' ts vs env' σ' → Dif sl σ σ' → D.bk σ' H'
  | .ct => ∀ H' σ', OkS K G0 H0 [] H' ts vs env' σ' → Dif sl σ σ' → D.ct σ' H'
  | .rt t => ∀ v H' σ', OkS K G0 H0 [] H' (t :: ts) (v :: vs) env' σ' → Dif sl σ σ' → D.rt v H'
def EvS (K : PySem.W.Frag) (s : TS) (F : SF) (sl : List Nat) : Prop := ∀ (G0 H0 H : Hp) (ts : List T) (vs : List V) (env : Env) (σ : St) (fl : Fl) (env' : Env), OkS K G0 H0 [] H ts vs env σ → F env = some (fl, env') → ∀ D : Ends, Post K G0 H0 ts vs D fl env' sl σ → s D σ H
structure DS (X : Cx) (st : Stmt) (s : TS) (F : SF) (sl : List Nat) : Prop where
  ps : PS X st s
  ok : EvS X.K s F sl
structure DSs (X : Cx) (st : List Stmt) (s : TS) (F : SF) (sl : List Nat) : Prop where
  ps : PSs X st s
  ok : EvS X.K s F sl
def sNx : SF := fun env => some (.nx, env)
def sSeq (F1 F2 : SF) : SF := fun env => (F1 env).bind fun r => match r.1 with
  | .nx => F2 r.2
  | .rt t => some (.rt t, r.2)
  | .bk => some (.bk, r.2)
  | .ct => some (.ct, r.2)
def sRet (f : EF) : SF := fun env => (f env).map fun r => (.rt r.1, r.2)
def sRetN : SF := fun env => some (.rt (.p .non), env)
def sBk : SF := fun env => some (.bk, env)
def sCt : SF := fun env => some (.ct, env)
def sNo : SF := fun _ => none
def sIf (c : CF) (F1 F2 : SF) : SF := fun env => (c env).bind fun r => if r.1 then F1 r.2 else F2 r.2
def sSet (i : Nat) (f : EF) : SF := fun env => (f env).bind fun r => if i < r.2.length then some (.nx, r.2.set i (some r.1)) else none
def sDrop (f : EF) : SF := fun env => (f env).map fun r => (.nx, r.2)
section
variable {X : Cx} {e : Expr} {st : Stmt} {sts : List Stmt} {te : TE} {tc : TT} {f : EF} {c : CF} {t u : TS} {F1 F2 : SF} {pos : Pos} {sl sl2 : List Nat}
theorem dss_nil : DSs X [] tNext sNx [] := by
  refine ⟨pss_nil, ?_⟩
  intro G0 H0 H ts vs env σ fl env' S e D q
  cases e
  exact q H σ S .rfl'
theorem dss_cons (h1 : DS X st t F1 sl) (h2 : DSs X sts u F2 sl2) : DSs X (st :: sts) (tSeq t u) (sSeq F1 F2) (sl ++ sl2) := by
  refine ⟨pss_cons h1.ps h2.ps, ?_⟩
  intro G0 H0 H ts vs env σ fl env' S g D q
  obtain ⟨⟨fl1, e1⟩, g1, g2⟩ := obind g
  refine h1.ok _ _ _ _ _ _ _ _ _ S g1 _ ?_
  cases fl1 with
  | nx =>
    intro H' σ' S' f1
    refine h2.ok _ _ _ _ _ _ _ _ _ S' g2 D ?_
    cases fl with
    | nx => exact fun H2 σ2 S2 f2 => q H2 σ2 S2 (f1.tr f2)
    | bk => exact fun H2 σ2 S2 f2 => q H2 σ2 S2 (f1.tr f2)
    | ct => exact fun H2 σ2 S2 f2 => q H2 σ2 S2 (f1.tr f2)
    | rt v => exact fun w H2 σ2 S2 f2 => q w H2 σ2 S2 (f1.tr f2)
  | rt t => cases g2; exact fun w H2 σ2 S2 f2 => q w H2 σ2 S2 f2.l
  | bk => cases g2; exact fun H2 σ2 S2 f2 => q H2 σ2 S2 f2.l
  | ct => cases g2; exact fun H2 σ2 S2 f2 => q H2 σ2 S2 f2.l
theorem dss_one (h1 : DS X st t F1 sl) : DSs X [st] t F1 sl := ⟨pss_one h1.ps, h1.ok⟩
theorem dss_never : DSs X sts tNever sNo [] := ⟨pss_never, fun _ _ _ _ _ _ _ _ _ _ e _ _ => nomatch e⟩
theorem ds_never : DS X st tNever sNo [] := ⟨ps_never, fun _ _ _ _ _ _ _ _ _ _ e _ _ => nomatch e⟩
theorem ds_pass : DS X (.Pass pos) tNext sNx [] := ⟨ps_pass, fun _ _ H _ _ _ σ _ _ S e _ q => by cases e; exact q H σ S .rfl'⟩
theorem ds_break : DS X (.Break pos) tBreak sBk [] := ⟨ps_break, fun _ _ H _ _ _ σ _ _ S e _ q => by cases e; exact q H σ S .rfl'⟩
theorem ds_continue : DS X (.Continue pos) tCont sCt [] := ⟨ps_continue, fun _ _ H _ _ _ σ _ _ S e _ q => by cases e; exact q H σ S .rfl'⟩
theorem ds_doc {x j pos'} : DS X (.Expr (.Constant (.str x) j pos) pos') tNext sNx [] := ⟨ps_doc, fun _ _ H _ _ _ σ _ _ S e _ q => by cases e; exact q H σ S .rfl'⟩
theorem ds_ret (h : DT X e te f) : DS X (.Return (some e) pos) (tRet te) (sRet f) [] := by
  refine ⟨ps_ret h.pe, ?_⟩
  intro G0 H0 H ts vs env σ fl env' S g D q
  obtain ⟨⟨x, e1⟩, g1, g2⟩ := omap g
  cases g2
  exact h.ok _ _ _ _ _ _ _ _ _ _ S g1 _ fun v H' _ S' => q v H' σ S' .rfl'
theorem ds_retN : DS X (.Return none pos) tRetN sRetN [] := by
  refine ⟨ps_retN, ?_⟩
  intro G0 H0 H ts vs env σ fl env' S g D q
  cases g
  exact q .non H σ (S.scal fun _ => rfl) .rfl'
theorem ds_if {a b : List Stmt} (hc : DC X e tc c) (h1 : DSs X a t F1 sl) (h2 : DSs X b u F2 sl2) : DS X (.If e a b pos) (tIfS tc t u) (sIf c F1 F2) (sl ++ sl2) := by
  refine ⟨ps_if hc.pt h1.ps h2.ps, ?_⟩
  intro G0 H0 H ts vs env σ fl env' S g D q
  obtain ⟨⟨b, e1⟩, g1, g2⟩ := obind g
  refine hc.ok _ _ _ _ _ _ _ _ _ _ S g1 _ fun H' _ S' => ?_
  cases b with
  | true =>
    rw [if_pos rfl]
    refine h1.ok _ _ _ _ _ _ _ _ _ S' g2 D ?_
    cases fl with
    | nx => exact fun H2 σ2 S2 f2 => q H2 σ2 S2 f2.l
    | bk => exact fun H2 σ2 S2 f2 => q H2 σ2 S2 f2.l
    | ct => exact fun H2 σ2 S2 f2 => q H2 σ2 S2 f2.l
    | rt v => exact fun w H2 σ2 S2 f2 => q w H2 σ2 S2 f2.l
  | false =>
    rw [if_neg Bool.false_ne_true]
    refine h2.ok _ _ _ _ _ _ _ _ _ S' g2 D ?_
    cases fl with
    | nx => exact fun H2 σ2 S2 f2 => q H2 σ2 S2 f2.r
    | bk => exact fun H2 σ2 S2 f2 => q H2 σ2 S2 f2.r
    | ct => exact fun H2 σ2 S2 f2 => q H2 σ2 S2 f2.r
    | rt v => exact fun w H2 σ2 S2 f2 => q w H2 σ2 S2 f2.r
theorem ds_drop (h : DT X e te f) (hs : swapsWith e none pos.line X.env = pure false := by rfl) : DS X (.Expr e pos) (tDrop te) (sDrop f) [] := by
  refine ⟨ps_expr h.pe hs, ?_⟩
  intro G0 H0 H ts vs env σ fl env' S g D q
  obtain ⟨⟨x, e1⟩, g1, g2⟩ := omap g
  cases g2
  exact h.ok _ _ _ _ _ _ _ _ _ _ S g1 _ fun v H' _ S' => q H' σ S'.pop .rfl'
theorem evs_set {K : PySem.W.Frag} {i : Nat} (h : EvT K te f) : EvS K (tAsg te (gName i)) (sSet i f) [i] := by
  intro G0 H0 H ts vs env σ fl env' S g D q
  obtain ⟨⟨x, e1⟩, g1, g2⟩ := obind g
  by_cases hi : i < e1.length
  · rw [if_pos hi] at g2
    cases g2
    exact h _ _ _ _ _ _ _ _ _ _ S g1 _ fun v H' _ S' => q H' _ (S'.put hi) .set
  · rw [if_neg hi] at g2; cases g2
theorem ds_set {i : Nat} {x : Str} {pos' : Pos} (hN : X.N.Nodup) (hi : X.N[i]? = some x) (hx : Loc X.env.scope x) (he : DT X e te f) (hs : swapsWith e (some (.Name x pos')) pos.line X.env = pure false := by rfl) (hf : X.fn x = true ∨ X.env.scope.names.lookup x = some .local := by first | exact .inl rfl | exact .inr rfl | assumption) :
    DS X (.Assign [.Name x pos'] e pos) (tAsg te (gName i)) (sSet i f) [i] := ⟨ps_set hN hi hx he.pe hs hf, evs_set he.ok⟩
end

/-! ### targets -/
abbrev GF := T → Env → Option Env
abbrev GsF := List T → Env → Option Env
def EvG (K : PySem.W.Frag) (g : TG) (G : GF) (sl : List Nat) : Prop := ∀ (G0 H0 : Hp) (W : List (T × V)) (H : Hp) (ts : List T) (vs : List V) (env : Env) (σ : St) (d : T) (x : V) (env' : Env), OkS K G0 H0 W H (d :: ts) (x :: vs) env σ → G d env = some env' →
  ∀ Q : St → Hp → Prop, (∀ σ', OkS K G0 H0 W H ts vs env' σ' → Dif sl σ σ' → Q σ' H) → g x σ H Q
def EvGs (K : PySem.W.Frag) (g : TGs) (G : GsF) (sl : List Nat) : Prop := ∀ (G0 H0 : Hp) (W : List (T × V)) (H : Hp) (ts : List T) (vs : List V) (env : Env) (σ : St) (ds : List T) (xs : List V) (env' : Env), OkS K G0 H0 W H (ds ++ ts) (xs ++ vs) env σ → xs.length = ds.length → G ds env = some env' →
  ∀ Q : St → Hp → Prop, (∀ σ', OkS K G0 H0 W H ts vs env' σ' → Dif sl σ σ' → Q σ' H) → g xs σ H Q
structure DG (X : Cx) (tg : Expr) (g : TG) (G : GF) (sl : List Nat) : Prop where
  pg : PG X tg g
  ok : EvG X.K g G sl
structure DGs (X : Cx) (tg : List Expr) (g : TGs) (G : GsF) (sl : List Nat) : Prop where
  pg : PGs X tg g
  ok : EvGs X.K g G sl
def gNm (i : Nat) : GF := fun d env => if i < env.length then some (env.set i (some d)) else none
def gEnd : GsF := fun ds env => match ds with | [] => some env | _ => none
def gAnd (g : GF) (r : GsF) : GsF := fun ds env => match ds with | d :: ds => (g d env).bind (r ds) | [] => none
def partsT : T → Option (List T)
  | .p (.tup ds) => some (ds.map T.p)
  | .tup ts => some ts
  | _ => none
def gTp (n : Nat) (g : GsF) : GF := fun d env => (partsT d).bind fun us => if us.length = n then g us env else none
theorem OkS.parts {K : PySem.W.Frag} {G0 H0 H : Hp} {W : List (T × V)} {ts us : List T} {vs : List V} {env : Env} {σ : St} {v : V} {t : T} (S : OkS K G0 H0 W H (t :: ts) (v :: vs) env σ) (h : partsT t = some us) :
    ∃ a xs, v = .ref a ∧ SqT K H a xs ∧ xs.length = us.length ∧ OkS K G0 H0 W H (us ++ ts) (xs ++ vs) env σ := by
  obtain ⟨G, ot, oe, s⟩ := S
  obtain ⟨u, r, o1, o2, h1, h2, h3, h4⟩ := s.tmp
  cases h1
  cases t with
  | p d =>
    cases d with
    | tup ds =>
      cases h
      obtain ⟨⟨a, xs, e1, e2, e3⟩, e4⟩ := h2
      subst e4
      refine ⟨a, xs, e1, Same.sqT s.gh e2, by rw [List.length_map]; exact e3.len, G, ot, oe, ?_, s.env, s.nd, s.fr, s.g0, s.gh, s.h0, s.nw, s.vw⟩
      rw [h4]
      exact (rpTs_p e3).append h3
    | _ => cases h
  | tup us' =>
    cases h
    obtain ⟨a, xs, e1, e2, e3⟩ := h2
    refine ⟨a, xs, e1, .inl (Same.rd s.gh e2), e3.len, G, ot, oe, ?_, s.env, s.nd, s.fr, s.g0, s.gh, s.h0, s.nw, s.vw⟩
    rw [h4]
    exact e3.append h3
  | lst _ => cases h
  | dic _ => cases h
  | dit _ => cases h
  | obj _ _ => cases h
  | box _ _ => cases h
  | al _ => cases h
section
variable {X : Cx} {e : Expr} {es : List Expr} {g : TG} {gs : TGs} {G : GF} {Gs : GsF} {pos : Pos}
theorem dg_name {i : Nat} {x : Str} (hN : X.N.Nodup) (hi : X.N[i]? = some x) (hx : Loc X.env.scope x) (hf : X.fn x = true ∨ X.env.scope.names.lookup x = some .local := by first | exact .inl rfl | exact .inr rfl | assumption) : DG X (.Name x pos) (gName i) (gNm i) [i] := by
  refine ⟨pg_name hN hi hx hf, ?_⟩
  intro G0 H0 W H ts vs env σ d x env' S e Q q
  unfold gNm at e
  by_cases hl : i < env.length
  · rw [if_pos hl] at e
    cases e
    exact q _ (S.put hl) .set
  · rw [if_neg hl] at e; cases e
theorem dgs_nil : DGs X [] gNil gEnd [] := by
  refine ⟨pgs_nil, ?_⟩
  intro G0 H0 W H ts vs env σ ds xs env' S hl e Q q
  cases ds with
  | nil =>
    cases e
    cases xs with
    | nil => exact ⟨rfl, q σ S ⟨rfl, fun _ _ => rfl⟩⟩
    | cons _ _ => simp at hl
  | cons _ _ => cases e
theorem dgs_cons {sl sl2 : List Nat} (h1 : DG X e g G sl) (h2 : DGs X es gs Gs sl2) (hs : (assignEach (e :: es) X.env).map (·.2) = assign e X.env :: (assignEach es X.env).map (·.2) := by rfl) : DGs X (e :: es) (gCons g gs) (gAnd G Gs) (sl ++ sl2) := by
  refine ⟨pgs_cons h1.pg h2.pg hs, ?_⟩
  intro G0 H0 W H ts vs env σ ds xs env' S hl e Q q
  cases ds with
  | nil => cases e
  | cons d ds =>
    cases xs with
    | nil => simp at hl
    | cons x xs =>
      obtain ⟨e1, g1, g2⟩ := obind e
      refine ⟨x, xs, rfl, ?_⟩
      exact h1.ok _ _ _ _ _ _ _ _ _ _ _ S g1 _ fun σ' S' f1 => h2.ok _ _ _ _ _ _ _ _ _ _ _ S' (by simpa using hl) g2 _ fun σ2 S2 f2 => q σ2 S2 ⟨f2.1.trans f1.1, fun j hj => (f2.2 j fun z => hj (List.mem_append_right _ z)).trans (f1.2 j fun z => hj (List.mem_append_left _ z))⟩
theorem dg_tup {k n : Nat} {sl : List Nat} (hc : X.calm = true) (h : DGs X es gs Gs sl) (hn : (assignEach es X.env).length = n := by rfl) (hst : (assignEach es X.env).findIdx? (·.1) = none := by rfl) : DG X (.Tuple es k pos) (gTup X.K n gs) (gTp n Gs) sl := by
  refine ⟨pg_tup hc h.pg hn hst, ?_⟩
  intro G0 H0 W H ts vs env σ d x env' S e Q q
  obtain ⟨us, h1, h2⟩ := obind e
  by_cases hl : us.length = n
  · rw [if_pos hl] at h2
    obtain ⟨a, xs, rfl, hx, hxl, S'⟩ := S.parts h1
    exact ⟨a, xs, rfl, hx, hxl.trans hl, h.ok _ _ _ _ _ _ _ _ _ _ _ S' hxl h2 _ q⟩
  · rw [if_neg hl] at h2; cases h2
/-- target = e -/
def sAsg (f : EF) (G : GF) : SF := fun env => (f env).bind fun r => (G r.1 r.2).map fun e => (.nx, e)
theorem ds_asg {tg ex : Expr} {te : TE} {f : EF} {sl : List Nat} (he : DT X ex te f) (hg : DG X tg g G sl) (hs : swapsWithSole [tg] ex pos.line X.env = pure false := by rfl) (hw : swappedStores [tg] ex X.env = pure none := by rfl)
    (h1 : (assignEach [tg] X.env).map (·.2) = [assign tg X.env] := by rfl) : DS X (.Assign [tg] ex pos) (tAsg te g) (sAsg f G) sl := by
  refine ⟨ps_asg he.pe hg.pg hs hw h1, ?_⟩
  intro G0 H0 H ts vs env σ fl env' S k D q
  obtain ⟨⟨t, e1⟩, g1, g2⟩ := obind k
  obtain ⟨e2, g3, g4⟩ := omap g2
  cases g4
  exact he.ok _ _ _ _ _ _ _ _ _ _ S g1 _ fun v H1 s1 S1 => hg.ok _ _ _ _ _ _ _ _ _ _ _ S1 g3 _ fun σ' S' f' => q H1 σ' S' f'
end

/-! ### walks -/
structure ItOk (K : PySem.W.Frag) (G1 : Hp) (J : It) (ds : List D) : Prop where
  go : ∀ (i : Nat) (H : Hp), Same G1 H → i < ds.length → J.go i H
  stop : ∀ H : Hp, Same G1 H → J.stop ds.length H
  yld : ∀ (i : Nat) (H : Hp) (x : V) (H' : Hp) (d : D), Same G1 H → ds[i]? = some d → J.yld i H x H' → (H' = H ∧ RpD K G1 d x) ∨ ∃ (p : Addr) (xs : List V) (es : List D), H p = none ∧ H' = upd H p (.tup xs) ∧ x = .ref p ∧ d = .tup es ∧ RpDs K G1 es xs
structure Gst (G0 H0 G1 : Hp) : Prop where
  s : Same G0 G1
  nw : ∀ a o, G1 a = some o → G0 a ≠ none ∨ H0 a = none ∨ ∃ xs, o = .tup xs
section
variable {K : PySem.W.Frag} {G0 H0 H G1 : Hp} {W : List (T × V)} {ts : List T} {vs : List V} {env : Env} {σ : St} {t : T} {v : V}
theorem OkS.back (S : OkS K G1 H0 W H ts vs env σ) (g : Gst G0 H0 G1) : OkS K G0 H0 W H ts vs env σ := by
  obtain ⟨G, ot, oe, s⟩ := S
  refine ⟨G, ot, oe, s.tmp, s.env, s.nd, s.fr, g.s.trans s.g0, s.gh, s.h0, fun a o e => ?_, s.vw⟩
  rcases s.nw a o e with h | h | h
  · cases q : G1 a with
    | none => exact absurd q h
    | some u =>
      have := s.g0 a u q
      rw [e] at this
      cases this
      exact g.nw a o q
  · exact .inr (.inl h)
  · exact .inr (.inr h)
theorem OkS.fix (S : OkS K G0 H0 W H ts vs env σ) : ∃ G1, Gst G0 H0 G1 ∧ Same G1 H ∧ OkS K G1 H0 W H ts vs env σ := by
  obtain ⟨G, ot, oe, s⟩ := S
  refine ⟨G, ⟨s.g0, s.nw⟩, s.gh, G, ot, oe, s.tmp, s.env, s.nd, s.fr, Same.refl _, s.gh, s.h0, fun a o e => .inl (by rw [e]; simp), s.vw⟩
theorem OkS.fixTop {d : D} (S : OkS K G0 H0 W H (.p d :: ts) (v :: vs) env σ) : ∃ G1, Gst G0 H0 G1 ∧ Same G1 H ∧ RpD K G1 d v ∧ OkS K G1 H0 W H ts vs env σ := by
  have S' := S.pop
  obtain ⟨G, ot, oe, s⟩ := S
  obtain ⟨u, r, o1, o2, h1, h2, h3, h4⟩ := s.tmp
  cases h1
  have e4 : o2 = ot := by rw [h4, h2.2]; rfl
  rw [e4] at h3
  refine ⟨G, ⟨s.g0, s.nw⟩, s.gh, h2.1, G, ot, oe, h3, s.env, s.nd, s.fr, Same.refl _, s.gh, s.h0, fun a o e => .inl (by rw [e]; simp), s.vw⟩
theorem OkS.same (S : OkS K G1 H0 W H ts vs env σ) : Same G1 H := by
  obtain ⟨G, ot, oe, s⟩ := S
  exact s.g0.trans s.gh
theorem OkS.pushG {d : D} (S : OkS K G1 H0 W H ts vs env σ) (h : RpD K G1 d v) : OkS K G1 H0 W H (.p d :: ts) (v :: vs) env σ := by
  obtain ⟨G, ot, oe, s⟩ := S
  exact ⟨G, ot, oe, ⟨v, vs, [], ot, rfl, ⟨RpD.mono s.g0 _ h, rfl⟩, s.tmp, rfl⟩, s.env, s.nd, s.fr, s.g0, s.gh, s.h0, s.nw, s.vw⟩
theorem OkS.pushGs : ∀ {ds : List D} {xs : List V}, OkS K G1 H0 W H ts vs env σ → RpDs K G1 ds xs → OkS K G1 H0 W H (ds.map T.p ++ ts) (xs ++ vs) env σ
  | [], xs, S, h => by rw [show xs = [] from h]; exact S
  | d :: ds, xs, S, ⟨v, r, h1, h2, h3⟩ => by
    subst h1
    exact (OkS.pushGs S h3).pushG h2
end
theorem mkTup_p (ds : List D) : mkTup (ds.map T.p) = .p (.tup ds) := by
  have e : allP (ds.map T.p) = some ds := by
    induction ds with
    | nil => rfl
    | cons d ds ih => simp [allP, ih]
  unfold mkTup
  rw [e]
def loopD (G : GF) (body : SF) : List D → Env → Option (Fl × Env)
  | [], env => some (.nx, env)
  | d :: ds, env => (G (.p d) env).bind fun e1 => (body e1).bind fun r => match r.1 with
    | .nx => loopD G body ds r.2
    | .ct => loopD G body ds r.2
    | .bk => some (.nx, r.2)
    | .rt t => some (.rt t, r.2)
abbrev IF := Env → Option (List D × Env)
def EvI (K : PySem.W.Frag) (wi : TI) (f : IF) : Prop := ∀ (G0 H0 : Hp) (W : List (T × V)) (H : Hp) (ts : List T) (vs : List V) (env : Env) (σ : St) (ds : List D) (env' : Env), OkS K G0 H0 W H ts vs env σ → f env = some (ds, env') →
  ∀ R : It → Hp → Prop, (∀ J H' G1, Same H H' → Gst G0 H0 G1 → ItOk K G1 J ds → OkS K G1 H0 W H' ts vs env' σ → R J H') → wi σ H R
structure DI (X : Cx) (tg it : Expr) (wi : TI) (f : IF) : Prop where
  pi : PI X tg it wi
  ok : EvI X.K wi f
def sFor (f : IF) (G : GF) (body : SF) : SF := fun env => (f env).bind fun r => loopD G body r.1 r.2
/-- the state with an item of a walk on top -/
theorem ItOk.item {K : PySem.W.Frag} {G1 H0 H H' : Hp} {J : It} {ds : List D} {W : List (T × V)} {ts : List T} {vs : List V} {env : Env} {σ : St} {i : Nat} {d : D} {x : V} (I : ItOk K G1 J ds) (S : OkS K G1 H0 W H ts vs env σ) (hd : ds[i]? = some d) (y : J.yld i H x H') :
    Same H H' ∧ OkS K G1 H0 W H' (.p d :: ts) (x :: vs) env σ := by
  rcases I.yld i H x H' d S.same hd y with ⟨rfl, h⟩ | ⟨p, xs, es, hp, rfl, rfl, rfl, h⟩
  · exact ⟨Same.refl _, S.pushG h⟩
  · have S2 := (S.pushGs h).newT (by rw [List.length_map]; exact h.len) hp
    rw [mkTup_p] at S2
    exact ⟨same_upd hp, S2⟩
theorem ds_for {X : Cx} {tg iter : Expr} {body : List Stmt} {wi : TI} {f : IF} {g : TG} {G : GF} {tb : TS} {F : SF} {pos : Pos} {sl sl2 : List Nat} (hp : PassesOwn (model X.prog X.w) X.A X.env X.xe) (hc : X.calm = true) (hi : DI X tg iter wi f) (hg : DG X tg g G sl) (hb : DSs X body tb F sl2)
    (hs : ∀ x, foldedSetIterable iter X.env x = pure x := by intro _; rfl) : DS X (.For tg iter body [] pos) (tFor wi g tb) (sFor f G F) (sl ++ sl2) := by
  refine ⟨ps_for hp hc hi.pi hg.pg hb.ps hs, ?_⟩
  intro G0 H0 H ts vs env σ fl env' S e D q
  obtain ⟨⟨ds, e1⟩, g1, g2⟩ := obind e
  refine hi.ok _ _ _ _ _ _ _ _ _ _ S g1 _ fun J H1 G1 s1 gst I S1 => ?_
  refine ⟨fun i m σ2 H => m = ds.length - i ∧ i ≤ ds.length ∧ Dif (sl ++ sl2) σ σ2 ∧ ∃ env, OkS X.K G1 H0 [] H ts vs env σ2 ∧ loopD G F (ds.drop i) env = some (fl, env'), ⟨ds.length, by simp, Nat.zero_le _, .rfl', e1, S1, by simpa using g2⟩, ?_⟩
  rintro i m σ2 H2 ⟨rfl, hle, df, env2, S2, hl⟩
  by_cases hlt : i < ds.length
  · refine .inr ⟨I.go i H2 S2.same hlt, fun σ' H' => i + 1 ≤ ds.length ∧ Dif (sl ++ sl2) σ σ' ∧ ∃ env, OkS X.K G1 H0 [] H' ts vs env σ' ∧ loopD G F (ds.drop (i + 1)) env = some (fl, env'), fun σ' H' ⟨h1, h2⟩ => ⟨ds.length - (i + 1), by omega, rfl, h1, h2⟩, fun x H3 y => ?_⟩
    obtain ⟨s3, S3⟩ := I.item S2 (List.getElem?_eq_getElem hlt) y
    rw [List.drop_eq_getElem_cons hlt] at hl
    obtain ⟨e2, l1, l2⟩ := obind hl
    obtain ⟨⟨fl2, e3⟩, l3, l4⟩ := obind l2
    refine hg.ok _ _ _ _ _ _ _ _ _ _ _ S3 l1 _ fun σ' S' f1 => ?_
    refine hb.ok _ _ _ _ _ _ _ _ _ S' l3 _ ?_
    cases fl2 with
    | nx => exact fun H' σ4 S4 f2 => ⟨hlt, df.two (f1.tr f2), e3, S4, l4⟩
    | ct => exact fun H' σ4 S4 f2 => ⟨hlt, df.two (f1.tr f2), e3, S4, l4⟩
    | bk => cases l4; exact fun H' σ4 S4 f2 => q H' σ4 (S4.back gst) (df.two (f1.tr f2))
    | rt t => cases l4; exact fun v H' σ' S4 f2 => q v H' σ' (S4.back gst) (df.two (f1.tr f2))
  · have hi' : i = ds.length := by omega
    subst hi'
    rw [List.drop_length] at hl
    cases hl
    exact .inl ⟨I.stop H2 S2.same, q H2 σ2 (S2.back gst) df⟩
/-- over a list -/
def iL (f : EF) : IF := fun env => (f env).bind fun r => match r.1 with | .p (.lst ds) => some (ds, r.2) | _ => none
def iTp (f : EF) : IF := fun env => (f env).bind fun r => match r.1 with | .p (.tup ds) => some (ds, r.2) | _ => none
theorem itOk_l {K : PySem.W.Frag} {G1 : Hp} {a : Addr} {ds : List D} {xs : List V} (h : SqL K G1 a xs) (hr : RpDs K G1 ds xs) : ItOk K G1 (Itl K a) ds where
  go := fun i H s hi => ⟨xs, xs[i]'(by rw [hr.len]; exact hi), s.seq h, List.getElem?_eq_getElem _⟩
  stop := fun H s => ⟨xs, s.seq h, by rw [hr.len]; exact Nat.le_refl _⟩
  yld := fun i H x H' d s hd y => by
    obtain ⟨e, y⟩ := y
    obtain ⟨v, h1, h2⟩ := hr.get hd
    have := y xs (s.seq h)
    rw [h1] at this
    cases this
    exact .inl ⟨e, h2⟩
theorem itOk_t {K : PySem.W.Frag} {G1 : Hp} {a : Addr} {ds : List D} {xs : List V} (h : SqT K G1 a xs) (hr : RpDs K G1 ds xs) : ItOk K G1 (Itt K a) ds where
  go := fun i H s hi => ⟨xs, xs[i]'(by rw [hr.len]; exact hi), Same.sqT s h, List.getElem?_eq_getElem _⟩
  stop := fun H s => ⟨xs, Same.sqT s h, by rw [hr.len]; exact Nat.le_refl _⟩
  yld := fun i H x H' d s hd y => by
    obtain ⟨e, y⟩ := y
    obtain ⟨v, h1, h2⟩ := hr.get hd
    have := y xs (Same.sqT s h)
    rw [h1] at this
    cases this
    exact .inl ⟨e, h2⟩
theorem di_list {X : Cx} {tg e : Expr} {te : TE} {f : EF} (h : DT X e te f) : DI X tg e (iList X.K te) (iL f) := by
  refine ⟨pi_list h.pe, ?_⟩
  intro G0 H0 W H ts vs env σ ds env' S g R r
  obtain ⟨⟨t, e1⟩, g1, g2⟩ := obind g
  cases t with
  | p d =>
    cases d with
    | lst ds' =>
      cases g2
      refine h.ok _ _ _ _ _ _ _ _ _ _ S g1 _ fun v H1 s1 S1 => ?_
      obtain ⟨G1, gst, sG, ⟨a, xs, e1, e2, e3⟩, S2⟩ := S1.fixTop
      exact ⟨a, e1, ⟨xs, sG.seq (.inl e2)⟩, r _ _ G1 s1 gst (itOk_l (.inl e2) e3) S2⟩
    | _ => cases g2
  | _ => cases g2
theorem di_tup {X : Cx} {tg e : Expr} {te : TE} {f : EF} (h : DT X e te f) : DI X tg e (iTup X.K te) (iTp f) := by
  refine ⟨pi_tup h.pe, ?_⟩
  intro G0 H0 W H ts vs env σ ds env' S g R r
  obtain ⟨⟨t, e1⟩, g1, g2⟩ := obind g
  cases t with
  | p d =>
    cases d with
    | tup ds' =>
      cases g2
      refine h.ok _ _ _ _ _ _ _ _ _ _ S g1 _ fun v H1 s1 S1 => ?_
      obtain ⟨G1, gst, sG, ⟨a, xs, e1, e2, e3⟩, S2⟩ := S1.fixTop
      exact ⟨a, e1, ⟨xs, Same.sqT sG e2⟩, r _ _ G1 s1 gst (itOk_t e2 e3) S2⟩
    | _ => cases g2
  | _ => cases g2
/-- range(..) -/
def rngD (lo : Int) (n : Nat) : List D := (List.range n).map fun (k : Nat) => D.int (lo + (k : Int))
theorem itOk_r {K : PySem.W.Frag} {G1 : Hp} {lo : Int} {n : Nat} : ItOk K G1 (Itr lo n) (rngD lo n) where
  go := fun i H s hi => by show i < n; simpa [rngD] using hi
  stop := fun H s => by show n ≤ _; simp [rngD]
  yld := fun i H x H' d s hd y => by
    obtain ⟨e, y⟩ := y
    refine .inl ⟨e, ?_⟩
    by_cases hi : i < n
    · simp [rngD, hi] at hd
      subst hd
      exact y
    · simp [rngD, hi] at hd
def iR1 (f : AF) : IF := fun env => (f env).bind fun r => match r.1 with
  | [.p (.int j)] => if j < 4611686018427387904 ∧ -4611686018427387904 ≤ j then some (rngD 0 j.toNat, r.2) else none
  | _ => none
def iR2 (f : AF) : IF := fun env => (f env).bind fun r => match r.1 with
  | [.p (.int i), .p (.int j)] => if (i < 4611686018427387904 ∧ -4611686018427387904 ≤ i) ∧ (j < 4611686018427387904 ∧ -4611686018427387904 ≤ j) then some (rngD i (j - i).toNat, r.2) else none
  | _ => none
theorem di_range1 {X : Cx} {tg a : Expr} {ta : TA} {f : AF} {p pos : Pos} (hg : Gl X "range") (hm : X.mg "range" = none) (h : DA X [a] ta f) (hs : starEach [a] X.env = [(false, eval a X.env)] := by rfl) : DI X tg (.Call (.Name "range" p) [a] [] pos) (iRng1 ta) (iR1 f) := by
  refine ⟨pi_range1 hg hm h.pa hs, ?_⟩
  intro G0 H0 W H ts vs env σ ds env' S g R r
  obtain ⟨⟨us, e1⟩, g1, g2⟩ := obind g
  refine h.ok _ _ _ _ _ _ _ _ _ _ S g1 _ fun ws H1 s1 hl S1 => ?_
  dsimp only at g2
  split at g2
  · rename_i j
    by_cases hj : j < 4611686018427387904 ∧ -4611686018427387904 ≤ j
    · rw [if_pos hj] at g2
      cases g2
      cases ws with
      | nil => simp at hl
      | cons w ws =>
        cases ws with
        | cons _ _ => simp at hl
        | nil =>
          have ew : w = .int j := S1.top
          obtain ⟨G1, gst, sG, S2⟩ := OkS.fix (show OkS X.K G0 H0 W H1 ts vs _ σ from S1.pop)
          exact ⟨j, by rw [ew], by omega, by omega, r _ _ G1 s1 gst itOk_r S2⟩
    · rw [if_neg hj] at g2; cases g2
  · cases g2
theorem di_range2 {X : Cx} {tg a b : Expr} {ta : TA} {f : AF} {p pos : Pos} (hg : Gl X "range") (hm : X.mg "range" = none) (h : DA X [a, b] ta f) (hs : starEach [a, b] X.env = [(false, eval a X.env), (false, eval b X.env)] := by rfl) (hs2 : starEach [b] X.env = [(false, eval b X.env)] := by rfl) :
    DI X tg (.Call (.Name "range" p) [a, b] [] pos) (iRng2 ta) (iR2 f) := by
  refine ⟨pi_range2 hg hm h.pa hs hs2, ?_⟩
  intro G0 H0 W H ts vs env σ ds env' S g R r
  obtain ⟨⟨us, e1⟩, g1, g2⟩ := obind g
  refine h.ok _ _ _ _ _ _ _ _ _ _ S g1 _ fun ws H1 s1 hl S1 => ?_
  dsimp only at g2
  split at g2
  · rename_i i j
    by_cases hj : (i < 4611686018427387904 ∧ -4611686018427387904 ≤ i) ∧ (j < 4611686018427387904 ∧ -4611686018427387904 ≤ j)
    · rw [if_pos hj] at g2
      cases g2
      match ws, hl with
      | [w1, w2], _ =>
        have e1 : w1 = .int i := S1.top
        have e2 : w2 = .int j := (show OkS X.K G0 H0 W H1 (.p (.int j) :: ts) (w2 :: vs) _ σ from S1.pop).top
        obtain ⟨G1, gst, sG, S2⟩ := OkS.fix (show OkS X.K G0 H0 W H1 ts vs _ σ from S1.pop.pop)
        exact ⟨i, j, by rw [e1, e2], ⟨by omega, by omega, by omega, by omega⟩, r _ _ G1 s1 gst itOk_r S2⟩
    · rw [if_neg hj] at g2; cases g2
  · cases g2
end DL

set_option Elab.async false
set_option linter.all false
set_option maxRecDepth 100000
namespace DL
open PySem PySem.Spec PyProof.Rows L2

/-! ### defs -/
/-- a def's promise by a function on data: what it hands back is new or stood in the data -/
def spD (n : Nat) (φ : List D → Option T) (K : PySem.W.Frag) : Sp := fun vs H Q _ => ∃ ds t G, ds.length = n ∧ φ ds = some t ∧ Same G H ∧ RpDs K G ds vs ∧ ∀ v G' H' o, Same G G' → Same G' H' → Same H H' → Rp K G' H' t v o → o.Nodup → (∀ a ∈ o, G' a = none ∧ H a = none) →
  (∀ a u, G' a = some u → G a ≠ none ∨ H a = none ∨ ∃ xs, u = .tup xs) → Q v H'
def startE (n : Nat) (ds : List D) : Env := ds.map (fun d => some (.p d)) ++ List.replicate (n - ds.length) none
def runF (n k : Nat) (F : SF) (ds : List D) : Option T := if ds.length = k then (F (startE n ds)).bind fun r => match r.1 with
  | .rt t => some t
  | .nx => some (.p .non)
  | _ => none
  else none
theorem rpE_start {K : PySem.W.Frag} {G H : Hp} {m : Nat} : ∀ {ds : List D} {vs : List V}, RpDs K G ds vs → RpE K G H (ds.map (fun d => some (.p d)) ++ List.replicate m none) (vs.map some ++ List.replicate m none) []
  | [], vs, h => by
    rw [show vs = [] from h]
    show RpE K G H (List.replicate m none) (List.replicate m none) []
    induction m with
    | zero => exact ⟨rfl, rfl⟩
    | succ m ih => exact ⟨none, _, rfl, ih⟩
  | d :: ds, vs, ⟨v, r, h1, h2, h3⟩ => by
    subst h1
    exact ⟨v, _, [], [], rfl, ⟨h2, rfl⟩, rpE_start h3, rfl⟩
theorem L2_start {N : List Str} {vs : List V} : start N vs = vs.map some ++ List.replicate (N.length - vs.length) none := rfl
section
variable {P : Program} {w : World} {K : PySem.W.Frag} {mg : Str → Option Value} {base : Heap}
theorem okD {x qual : Str} {st : Stmt} {f : Addr} {fd : FuncData} {N ps : List Str} {k : Nat} {n np : Nat} {Fb : SF} (F : Fun K x qual st f fd) (S : FnScope N ps (defScope st)) (hn : N.length = n) (hnp : ps.length = np)
    (hbody : ∀ (cdv : Value) (A : Around) (outer : List PySem.Env) (s : Shared) (H : Hp) (E : XK), Room k (A.deeper (envOfC qual (defScope st) s.heap.objs.size f cdv)) →
      ∃ t sl, DSs (cxOf CX0 P w K mg base N qual (defScope st) f cdv A outer s H E).nox (defBody st) t Fb sl) : FnOk P w K mg base CX0 (k + 1) f fd ps (spD np (runF n np Fb) K) := by
  refine F.ok S (fun vs H Q E h => ?_) (fun cdv A outer s H vs Q E hr h => ?_)
  · obtain ⟨ds, t, G, h1, _, _, h2, _⟩ := h
    rw [h2.len, h1, hnp]
  · obtain ⟨ds, t, G, h1, h2, h3, h4, q⟩ := h
    obtain ⟨tr, sl, hd⟩ := hbody cdv A outer s H E hr
    refine ⟨tr, hd.ps, ?_⟩
    unfold runF at h2
    rw [if_pos h1] at h2
    obtain ⟨⟨fl, e1⟩, g1, g2⟩ := obind h2
    have S0 : OkS K G H [] H [] [] (startE n ds) (start N vs) := by
      refine ⟨G, [], [], ⟨rfl, rfl⟩, ?_, by simp, fun a ha => by simp at ha, Same.refl _, h3, Same.refl _, fun a o e => .inl (by rw [e]; simp), fun q hq => by cases hq⟩
      rw [L2_start, hn, h4.len]
      exact rpE_start h4
    refine hd.ok G H H [] [] _ _ fl e1 S0 g1 _ ?_
    have fin : ∀ (u : T) (v : V) (H' : Hp) (env : Env) (σ : St), OkS K G H [] H' [u] [v] env σ → u = t → Q v H' := fun u v H' env σ S1 e => by
      subst e
      obtain ⟨G', ot, oe, s1⟩ := S1
      obtain ⟨w, r, o1, o2, a1, a2, a3, a4⟩ := s1.tmp
      cases a1
      have a5 : o2 = [] := a3.2
      subst a5
      rw [List.append_nil] at a4
      subst a4
      exact q v G' H' ot s1.g0 s1.gh s1.h0 a2 (List.nodup_append.mp s1.nd).1 (fun a ha => s1.fr a (List.mem_append_left _ ha)) s1.nw
    cases fl with
    | nx =>
      have e : T.p .non = t := Option.some.inj g2
      exact fun H' σ' S1 _ => fin _ _ H' e1 σ' (S1.scal (z := .non) (u := .non) fun _ => rfl) e
    | rt u =>
      have e : u = t := Option.some.inj g2
      exact fun v H' σ' S1 _ => fin _ _ H' e1 σ' S1 e
    | bk => cases g2
    | ct => cases g2
end
/-! ### calls -/
def eCall (φ : List D → Option T) (fa : AF) : EF := fun env => (fa env).bind fun r => (allP r.1).bind fun ds => (φ ds).map fun t => (t, r.2)
theorem OkS.called {K : PySem.W.Frag} {G0 H0 H H' G G' : Hp} {W : List (T × V)} {ts : List T} {vs : List V} {env : Env} {σ : St} {ot oe o : List Addr} {t : T} {v : V} (s : St0 K G0 H0 W G H ts vs env σ ot oe)
    (h1 : Same G G') (h2 : Same G' H') (h3 : Same H H') (h4 : Rp K G' H' t v o) (h5 : o.Nodup) (h6 : ∀ a ∈ o, G' a = none ∧ H a = none) (h7 : ∀ a u, G' a = some u → G a ≠ none ∨ H a = none ∨ ∃ xs, u = .tup xs) : OkS K G0 H0 W H' (t :: ts) (v :: vs) env σ := by
  have all : ∀ a ∈ ot ++ oe, ∃ u, H a = some u ∧ ∀ xs, u ≠ .tup xs := fun a ha => by
    rcases List.mem_append.mp ha with ha | ha
    · exact s.tmp.there _ a ha
    · exact s.env.there _ a ha
  have kp : ∀ a ∈ ot ++ oe, H' a = H a := fun a ha => by
    obtain ⟨u, e, _⟩ := all a ha
    rw [e, h3 a u e]
  refine ⟨G', o ++ ot, oe, ⟨v, vs, o, ot, rfl, h4, s.tmp.mono h1 _ (fun a ha => kp a (List.mem_append_left _ ha)), rfl⟩, s.env.mono h1 _ (fun a ha => kp a (List.mem_append_right _ ha)), ?_, fun a ha => ?_, s.g0.trans h1, h2, s.h0.trans h3, fun a u e => ?_, fun q hq => ?_⟩
  · rw [List.append_assoc]
    refine List.nodup_append.mpr ⟨h5, s.nd, fun a ha b hb e => ?_⟩
    subst e
    obtain ⟨u, e, _⟩ := all a hb
    rw [(h6 a ha).2] at e; cases e
  · rw [List.append_assoc] at ha
    rcases List.mem_append.mp ha with ha | ha
    · exact ⟨(h6 a ha).1, Same.none s.h0 (h6 a ha).2⟩
    · refine ⟨?_, (s.fr a ha).2⟩
      cases q : G' a with
      | none => rfl
      | some u =>
        obtain ⟨u', e, ne⟩ := all a ha
        rcases h7 a u q with z | z | ⟨xs, z⟩
        · exact absurd (s.fr a ha).1 z
        · rw [z] at e; cases e
        · have := h2 a u q
          rw [h3 a u' e] at this
          cases this
          exact absurd z (ne xs)
  · rcases h7 a u e with z | z | z
    · cases q : G a with
      | none => exact absurd q z
      | some u' =>
        have := h1 a u' q
        rw [e] at this; cases this
        exact s.nw a u q
    · exact .inr (.inl (Same.none s.h0 z))
    · exact .inr (.inr z)
  · obtain ⟨o', h⟩ := s.vw q hq
    refine ⟨o', h.mono h1 _ fun a ha => ?_⟩
    obtain ⟨u, e, _⟩ := h.there _ a ha
    rw [e, h3 a u e]
theorem ev_call {K : PySem.W.Frag} {n : Nat} {φ : List D → Option T} {ta : TA} {fa : AF} (hφ : ∀ ds t, φ ds = some t → ds.length = n) (ha : EvA K ta fa) : EvT K (tCall (spD n φ K) [] E0 ta) (eCall φ fa) := by
  intro G0 H0 W H ts vs env σ t env' S g Q q
  obtain ⟨⟨us, e1⟩, g1, g2⟩ := obind g
  obtain ⟨ds, g3, g4⟩ := obind g2
  obtain ⟨t', g5, g6⟩ := omap g4
  cases g6
  have eu := allP_eq g3
  have eu : us = ds.map T.p := eu
  subst eu
  refine ha _ _ _ _ _ _ _ _ _ _ S g1 _ fun ws H1 s1 hl S1 => ?_
  obtain ⟨G, ot, oe, s⟩ := S1
  obtain ⟨o1, o2, k1, k2, k3⟩ := s.tmp.split hl
  obtain ⟨k4, k5⟩ := rpDs_of k1
  subst k5
  have k3 : ot = o2 := k3
  subst k3
  have s' : St0 K G0 H0 W G H1 ts vs _ σ ot oe := ⟨k2, s.env, s.nd, s.fr, s.g0, s.gh, s.h0, s.nw, s.vw⟩
  refine ⟨ds, t, G, hφ _ _ g5, g5, s.gh, by rw [List.append_nil]; exact k4, fun v G' H' o h1 h2 h3 h4 h5 h6 h7 => ?_⟩
  exact q v H' (s1.trans h3) (OkS.called s' h1 h2 h3 h4 h5 h6 h7)
theorem runF_len {n k : Nat} {F : SF} {ds : List D} {t : T} (h : runF n k F ds = some t) : ds.length = k := by
  unfold runF at h
  by_cases hl : ds.length = k
  · exact hl
  · rw [if_neg hl] at h; cases h
section
variable {X : Cx} {k : Nat} {f : Addr} {fd : FuncData} {ps : List Str} {n : Nat} {φ : List D → Option T} {x : Str} {p pos : Pos} {e : Expr} {es : List Expr} {ta : TA} {fa : AF}
theorem dt_call (hφ : ∀ ds t, φ ds = some t → ds.length = n) (F : FnOk X.prog X.w X.K X.mg X.base CX0 k f fd ps (spD n φ X.K)) (hr : Room k X.A) (hg : Gl X x) (hm : X.mg x = some (.ref f)) (hk : PySem.W.keepIn X.K (.ref f) = true) (hb : Binds X.K fd ps [])
    (ha : DA X (e :: es) ta fa) (hdb : (x == ("__debug__" : Str)) = false := by decide) (he : starEach (e :: es) X.env = (false, eval e X.env) :: starEach es X.env := by rfl) (hpl : (backTo pos (starEach es X.env)).any (·.1) = false := by rfl) :
    DT X (.Call (.Name x p) (e :: es) [] pos) (tCall (spD n φ X.K) [] E0 ta) (eCall φ fa) := ⟨pe_call F hr hg hm hk hb .nil pass0 ha.pa hdb he hpl, ev_call hφ ha.ok⟩
end
end DL

set_option Elab.async false
set_option linter.all false
set_option maxRecDepth 100000
namespace DL
open PySem PySem.Spec PyProof.Rows L2

/-! ### data as values, equality -/
def toV : D → Option V
  | .non => some .non
  | .bl b => some (.bl b)
  | .int i => some (.int i)
  | .str s => some (.str s)
  | _ => none
mutual
def toPy : D → Option PyData
  | .non => some .none
  | .bl b => some (.bool b)
  | .int i => some (.int i)
  | .str s => some (.str s)
  | .lst ds => (toPys ds).map .list
  | .tup ds => (toPys ds).map .tuple
  | .dic _ => none
  | _ => none
def toPys : List D → Option (List PyData)
  | [] => some []
  | d :: ds => (toPy d).bind fun p => (toPys ds).map (p :: ·)
end
theorem toV_rp {K : PySem.W.Frag} {G : Hp} {d : D} {v w : V} (h : toV d = some v) (r : RpD K G d w) : w = v := by
  cases d <;> simp only [toV, Option.some.injEq, reduceCtorEq] at h
  all_goals (subst h; exact r)
mutual
theorem toPy_rp {K : PySem.W.Frag} {G : Hp} : ∀ {d : D} {p : PyData} {v : V}, toPy d = some p → RpD K G d v → Dp K G v p
  | .non, p, v, h, r => by cases h; rw [show v = _ from r]; exact .non
  | .bl _, p, v, h, r => by cases h; rw [show v = _ from r]; exact .bl _
  | .int _, p, v, h, r => by cases h; rw [show v = _ from r]; exact .int _
  | .str _, p, v, h, r => by cases h; rw [show v = _ from r]; exact .str _
  | .lst ds, p, v, h, ⟨a, vs, h1, h2, h3⟩ => by
    obtain ⟨q, g1, g2⟩ := omap (show (toPys ds).map PyData.list = some p from h)
    subst g2; subst h1
    exact .lst (.inl h2) (toPys_rp g1 h3)
  | .tup ds, p, v, h, ⟨a, vs, h1, h2, h3⟩ => by
    obtain ⟨q, g1, g2⟩ := omap (show (toPys ds).map PyData.tuple = some p from h)
    subst g2; subst h1
    exact .tup h2 (toPys_rp g1 h3)
  | .dic _, p, v, h, r => by cases h
  | .dit _, p, v, h, r => by cases h
  | .obj _ _, p, v, h, r => by cases h
  | .al _, p, v, h, r => by cases h
theorem toPys_rp {K : PySem.W.Frag} {G : Hp} : ∀ {ds : List D} {ps : List PyData} {vs : List V}, toPys ds = some ps → RpDs K G ds vs → DpAll K G vs ps
  | [], ps, vs, h, r => by cases h; rw [show vs = [] from r]; exact .nil
  | d :: ds, ps, vs, h, ⟨v, r, h1, h2, h3⟩ => by
    obtain ⟨p, g1, g2⟩ := obind (show (toPy d).bind (fun p => (toPys ds).map (p :: ·)) = some ps from h)
    obtain ⟨qs, g3, g4⟩ := omap g2
    subst g4; subst h1
    exact .cons (toPy_rp g1 h2) (toPys_rp g3 h3)
end
def eqDeep (a b : D) : Option Bool := (toPy a).bind fun p => (toPy b).bind fun q => if SeqAt.shaped p && SeqAt.shaped q then some (PyData.eqv p q) else none
/-- == of data -/
def eqQ (a b : D) : Option Bool := match toV a, toV b with
  | some v, some w => if scal v w then some (decide (v = w)) else none
  | _, _ => eqDeep a b
def rEqA (K : PySem.W.Frag) : R2 := fun x y H Q => rEq x y H Q ∨ rEqD K x y H Q
def rNeA (K : PySem.W.Frag) : R2 := fun x y H Q => rNe x y H Q ∨ rNeD K x y H Q
theorem OpR.or {X : Cx} {f : Value → Value → Sem Value} {r r' : R2} (h : OpR X f r) (h' : OpR X f r') : OpR X f (fun x y H Q => r x y H Q ∨ r' x y H Q) := by
  intro pins s σ H x y v u Q I rx ry q
  rcases q with q | q
  · exact h pins s σ H x y v u Q I rx ry q
  · exact h' pins s σ H x y v u Q I rx ry q
theorem op_eqA {X : Cx} (hu : X.A.units + 64 < cLine) : OpR X (compareOp .Eq) (rEqA X.K) := OpR.or op_eq (op_eqD hu)
theorem op_neA {X : Cx} (hu : X.A.units + 64 < cLine) : OpR X (compareOp .NotEq) (rNeA X.K) := OpR.or op_ne (op_neD hu)
theorem eqQ_r {K : PySem.W.Frag} {H : Hp} {a b : D} {c : Bool} {v w : V} {Q : VK} (h : eqQ a b = some c) (ha : RpD K H a v) (hb : RpD K H b w) (q : Q (.bl c) H) : rEqA K v w H Q := by
  have deep : eqDeep a b = some c → rEqA K v w H Q := fun h => by
    obtain ⟨p, h1, h2⟩ := obind h
    obtain ⟨p', h3, h4⟩ := obind h2
    by_cases hs : (SeqAt.shaped p && SeqAt.shaped p') = true
    · rw [if_pos hs] at h4
      cases h4
      rw [Bool.and_eq_true] at hs
      exact .inr ⟨p, p', toPy_rp h1 ha, toPy_rp h3 hb, hs.1, hs.2, q⟩
    · rw [if_neg hs] at h4; cases h4
  unfold eqQ at h
  split at h
  · rename_i v' w' e1 e2
    rw [toV_rp e1 ha, toV_rp e2 hb]
    by_cases hs : scal v' w' = true
    · rw [if_pos hs] at h; cases h; exact .inl ⟨hs, q⟩
    · rw [if_neg hs] at h; cases h
  · exact deep h
theorem neQ_r {K : PySem.W.Frag} {H : Hp} {a b : D} {c : Bool} {v w : V} {Q : VK} (h : eqQ a b = some c) (ha : RpD K H a v) (hb : RpD K H b w) (q : Q (.bl (!c)) H) : rNeA K v w H Q := by
  have deep : eqDeep a b = some c → rNeA K v w H Q := fun h => by
    obtain ⟨p, h1, h2⟩ := obind h
    obtain ⟨p', h3, h4⟩ := obind h2
    by_cases hs : (SeqAt.shaped p && SeqAt.shaped p') = true
    · rw [if_pos hs] at h4
      cases h4
      rw [Bool.and_eq_true] at hs
      exact .inr ⟨p, p', toPy_rp h1 ha, toPy_rp h3 hb, hs.1, hs.2, q⟩
    · rw [if_neg hs] at h4; cases h4
  unfold eqQ at h
  split at h
  · rename_i v' w' e1 e2
    rw [toV_rp e1 ha, toV_rp e2 hb]
    by_cases hs : scal v' w' = true
    · rw [if_pos hs] at h; cases h; exact .inl ⟨hs, q⟩
    · rw [if_neg hs] at h; cases h
  · exact deep h
/-- a comparison of two looked-at values -/
def eCmp (g : D → D → Option Bool) (fa fb : EF) : EF := fun env => (fa env).bind fun x => (fb x.2).bind fun y => (g x.1.toD y.1.toD).map fun c => (.p (.bl c), y.2)
def Cm2 (r : PySem.W.Frag → R2) (g : D → D → Option Bool) : Prop := ∀ (K : PySem.W.Frag) (H : Hp) (a b : D) (c : Bool) (v w : V) (Q : VK), g a b = some c → RpD K H a v → RpD K H b w → Q (.bl c) H → r K v w H Q
theorem ev_cmp {K : PySem.W.Frag} {r : PySem.W.Frag → R2} {g : D → D → Option Bool} {ta tb : TE} {fa fb : EF} (hr : Cm2 r g) (ha : EvV K ta fa) (hb : EvV K tb fb) : EvT K (tOp (r K) ta tb) (eCmp g fa fb) := by
  intro G0 H0 W H ts vs env σ t env' S e Q q
  obtain ⟨⟨x, e1⟩, h1, h2⟩ := obind e
  obtain ⟨⟨y, e2⟩, h3, h4⟩ := obind h2
  obtain ⟨c, h5, h6⟩ := omap h4
  cases h6
  refine ha _ _ _ _ _ _ _ _ _ _ S h1 _ fun v H1 s1 S1 => ?_
  refine hb _ _ _ _ _ _ _ _ _ _ S1 h3 _ fun w H2 s2 S2 => ?_
  exact hr K H2 _ _ c v w Q h5 (S2.see (q := (x, v)) (by simp)) (S2.see (q := (y, w)) (by simp)) (q _ H2 (s1.trans s2) (S2.unview.unview.scal fun _ => rfl))
theorem cm_eq : Cm2 rEqA eqQ := fun K H a b c v w Q h ha hb q => eqQ_r h ha hb q
def neQ (a b : D) : Option Bool := (eqQ a b).map (!·)
theorem cm_ne : Cm2 rNeA neQ := fun K H a b c v w Q h ha hb q => by
  obtain ⟨c', h1, h2⟩ := omap h
  subst h2
  exact neQ_r h1 ha hb q
def cmI (f : Int → Int → Bool) : D → D → Option Bool
  | .int i, .int j => some (f i j)
  | _, _ => none
theorem cm_int {f : Int → Int → Bool} : Cm2 (fun _ => rI0 fun i j => .bl (f i j)) (cmI f) := fun K H a b c v w Q h ha hb q => by
  unfold cmI at h
  split at h
  · rename_i i j
    cases h
    exact ⟨i, j, ha, hb, q⟩
  · cases h
def D.isNon : D → Bool
  | .non => true
  | _ => false
def isN (a b : D) : Option Bool := match b with | .non => some a.isNon | _ => none
theorem rp_non {K : PySem.W.Frag} {G : Hp} {d : D} {v : V} (r : RpD K G d v) : decide (v = .non) = d.isNon := by
  cases d with
  | non => rw [show v = _ from r]; rfl
  | bl b => rw [show v = _ from r]; rfl
  | int b => rw [show v = _ from r]; rfl
  | str b => rw [show v = _ from r]; rfl
  | lst b => obtain ⟨a, vs, h, _⟩ := r; rw [h]; rfl
  | tup b => obtain ⟨a, vs, h, _⟩ := r; rw [h]; rfl
  | dic b => obtain ⟨a, vs, h, _⟩ := r; rw [h]; rfl
  | dit b => obtain ⟨a, vs, h, _⟩ := r; rw [h]; rfl
  | obj n b => obtain ⟨a, C, dx, vs, h, _⟩ := r; rw [h]; rfl
  | al a => rw [show v = _ from r]; rfl
def rIsA (_ : PySem.W.Frag) : R2 := fun x y H Q => y = .non ∧ Q (.bl (decide (x = .non))) H
def rIsNotA (_ : PySem.W.Frag) : R2 := fun x y H Q => y = .non ∧ Q (.bl (!decide (x = .non))) H
theorem op_isA {X : Cx} : OpR X (compareOp .Is) (rIsA X.K) := op_isN
theorem op_isNotA {X : Cx} : OpR X (compareOp .IsNot) (rIsNotA X.K) := op_notN
theorem cm_is : Cm2 rIsA isN := fun K H a b c v w Q h ha hb q => by
  cases b <;> simp only [isN, Option.some.injEq, reduceCtorEq] at h
  refine ⟨hb, ?_⟩
  rw [rp_non ha]
  subst h
  exact q
def isNotN (a b : D) : Option Bool := (isN a b).map (!·)
theorem cm_isNot : Cm2 rIsNotA isNotN := fun K H a b c v w Q h ha hb q => by
  obtain ⟨c', h1, h2⟩ := omap h
  subst h2
  cases b <;> simp only [isN, Option.some.injEq, reduceCtorEq] at h1
  refine ⟨hb, ?_⟩
  rw [rp_non ha]
  subst h1
  exact q
/-- in: one sign in a text, a text in a text, a flat thing in a list or tuple -/
def toVs : List D → Option (List V)
  | [] => some []
  | d :: ds => (toV d).bind fun v => (toVs ds).map (v :: ·)
theorem toVs_rp {K : PySem.W.Frag} {G : Hp} : ∀ {ds : List D} {vs ws : List V}, toVs ds = some vs → RpDs K G ds ws → ws = vs
  | [], vs, ws, h, r => by cases h; exact r
  | d :: ds, vs, ws, h, ⟨v, r, h1, h2, h3⟩ => by
    obtain ⟨p, g1, g2⟩ := obind (show (toV d).bind (fun p => (toVs ds).map (p :: ·)) = some vs from h)
    obtain ⟨qs, g3, g4⟩ := omap g2
    subst g4; subst h1
    rw [toV_rp g1 h2, toVs_rp g3 h3]
def inFlat (a : D) (ds : List D) : Option Bool := (toV a).bind fun v => (toVs ds).bind fun vs => if flatV v && vs.all flatV then some (inV v vs) else none
def inStr (a b : Str) : Bool := match a.cps.toList with
  | [c] => decide (c ∈ b.cps.toList)
  | _ => !(Builtin.Str.occurrences b a 0 b.length 1).isEmpty
def inQ (a b : D) : Option Bool := match a, b with
  | .str s, .str t => some (inStr s t)
  | a, .lst ds => inFlat a ds
  | a, .tup ds => inFlat a ds
  | _, _ => none
def notInQ (a b : D) : Option Bool := (inQ a b).map (!·)
def rInA (K : PySem.W.Frag) : R2 := fun x y H Q => (∃ (c : Nat) (z : Str), x = .str ⟨#[c]⟩ ∧ y = .str z ∧ Q (.bl (decide (c ∈ z.cps.toList))) H) ∨ (∃ i j, x = .str i ∧ y = .str j ∧ Q (.bl (!(Builtin.Str.occurrences j i 0 j.length 1).isEmpty)) H) ∨ rIn K false x y H Q
def rNotInA (K : PySem.W.Frag) : R2 := fun x y H Q => (∃ (c : Nat) (z : Str), x = .str ⟨#[c]⟩ ∧ y = .str z ∧ Q (.bl (!decide (c ∈ z.cps.toList))) H) ∨ (∃ i j, x = .str i ∧ y = .str j ∧ Q (.bl (!(!(Builtin.Str.occurrences j i 0 j.length 1).isEmpty))) H) ∨ rIn K true x y H Q
theorem op_inA {X : Cx} : OpR X (compareOp .In) (rInA X.K) := OpR.or op_in_sign (OpR.or op_in_str op_in_seq)
theorem op_notInA {X : Cx} : OpR X (compareOp .NotIn) (rNotInA X.K) := OpR.or op_notIn_sign (OpR.or op_notIn_str op_notIn_seq)
theorem str_one {a : Str} {c : Nat} (h : a.cps.toList = [c]) : a = ⟨#[c]⟩ := by
  obtain ⟨⟨l⟩⟩ := a
  have h : l = [c] := h
  subst h; rfl
theorem cm_in : Cm2 rInA inQ := fun K H a b c v w Q h ha hb q => by
  have fl : ∀ ds : List D, inFlat a ds = some c → (∃ p xs, w = .ref p ∧ (SqL K H p xs ∨ SqT K H p xs) ∧ RpDs K H ds xs) → rInA K v w H Q := fun ds h ⟨p, xs, h1, h2, h3⟩ => by
    obtain ⟨v', g1, g2⟩ := obind h
    obtain ⟨vs, g3, g4⟩ := obind g2
    by_cases hf : (flatV v' && vs.all flatV) = true
    · rw [if_pos hf] at g4
      cases g4
      rw [Bool.and_eq_true] at hf
      have e1 := toV_rp g1 ha
      have e2 := toVs_rp g3 h3
      subst e1; subst e2
      exact .inr (.inr ⟨p, xs, h1, h2, hf.1, hf.2, q⟩)
    · rw [if_neg hf] at g4; cases g4
  unfold inQ at h
  split at h
  · rename_i s t
    cases h
    unfold inStr at q
    split at q
    · rename_i c e
      rw [show v = _ from ha, str_one e]
      exact .inl ⟨c, t, rfl, hb, q⟩
    · exact .inr (.inl ⟨s, t, ha, hb, q⟩)
  · rename_i ds
    obtain ⟨p, xs, h1, h2, h3⟩ := hb
    exact fl ds h ⟨p, xs, h1, .inl (.inl h2), h3⟩
  · rename_i ds
    obtain ⟨p, xs, h1, h2, h3⟩ := hb
    exact fl ds h ⟨p, xs, h1, .inr h2, h3⟩
  · cases h
theorem cm_notIn : Cm2 rNotInA notInQ := fun K H a b c v w Q h ha hb q => by
  obtain ⟨c', h0, h2⟩ := omap h
  clear h
  subst h2
  have h := h0
  clear h0
  have fl : ∀ ds : List D, inFlat a ds = some c' → (∃ p xs, w = .ref p ∧ (SqL K H p xs ∨ SqT K H p xs) ∧ RpDs K H ds xs) → rNotInA K v w H Q := fun ds h ⟨p, xs, h1, h2, h3⟩ => by
    obtain ⟨v', g1, g2⟩ := obind h
    obtain ⟨vs, g3, g4⟩ := obind g2
    by_cases hf : (flatV v' && vs.all flatV) = true
    · rw [if_pos hf] at g4
      cases g4
      rw [Bool.and_eq_true] at hf
      have e1 := toV_rp g1 ha
      have e2 := toVs_rp g3 h3
      subst e1; subst e2
      exact .inr (.inr ⟨p, xs, h1, h2, hf.1, hf.2, q⟩)
    · rw [if_neg hf] at g4; cases g4
  unfold inQ at h
  split at h
  · rename_i s t
    cases h
    unfold inStr at q
    split at q
    · rename_i c e
      rw [show v = _ from ha, str_one e]
      exact .inl ⟨c, t, rfl, hb, q⟩
    · exact .inr (.inl ⟨s, t, ha, hb, q⟩)
  · rename_i ds
    obtain ⟨p, xs, h1, h2, h3⟩ := hb
    exact fl ds h ⟨p, xs, h1, .inl (.inl h2), h3⟩
  · rename_i ds
    obtain ⟨p, xs, h1, h2, h3⟩ := hb
    exact fl ds h ⟨p, xs, h1, .inr h2, h3⟩
  · cases h

/-! ### tests -/
def cT (f : EF) : CF := fun env => (f env).bind fun r => match r.1 with | .p (.bl b) => some (b, r.2) | _ => none
theorem EvT.test {K : PySem.W.Frag} {te : TE} {f : EF} (h : EvT K te f) : EvC K (tTest te) (cT f) := by
  intro G0 H0 W H ts vs env σ c env' S e Q q
  obtain ⟨⟨t, e1⟩, h1, h2⟩ := obind e
  cases t with
  | p d =>
    cases d with
    | bl b =>
      cases h2
      exact h _ _ _ _ _ _ _ _ _ _ S h1 _ fun v H' s S' => ⟨c, S'.top, q H' s S'.pop⟩
    | _ => cases h2
  | _ => cases h2
def cNot (c : CF) : CF := fun env => (c env).map fun r => (!r.1, r.2)
def cAnd (c d : CF) : CF := fun env => (c env).bind fun r => if r.1 then d r.2 else some (false, r.2)
def cOr (c d : CF) : CF := fun env => (c env).bind fun r => if r.1 then some (true, r.2) else d r.2
structure DW (X : Cx) (e : Expr) (tc : TT) (f : CF) : Prop where
  pt : PW X e tc
  ok : EvC X.K tc f
def eIf (c : CF) (fa fb : EF) : EF := fun env => (c env).bind fun r => if r.1 then fa r.2 else fb r.2
section
variable {X : Cx} {a b e : Expr} {es rest : List Expr} {ta tb te : TE} {tc td : TT} {fa fb f : EF} {c d : CF} {pos : Pos}
theorem dc_val (h : DT X e te f) (he : ∀ whole, isTrue e X.env whole = (do let v ← whole; standAt e.pos; holding [v] (truthy v)) := by intro _; rfl) : DC X e (tB te) (cT f) := ⟨pt_val h.pe he, h.ok.test⟩
theorem dt_cmp {op : CmpOp} {r : PySem.W.Frag → R2} {g : D → D → Option Bool} (ho : OpR X (compareOp op) (r X.K)) (hr : Cm2 r g) (ha : DV X a ta fa) (hb : DV X b tb fb) (hm : behindInMarks op b = false) : DT X (.Compare a [op] [b] pos) (tOp (r X.K) ta tb) (eCmp g fa fb) := ⟨pe_cmpR ho ha.pe hb.pe hm, ev_cmp hr ha.ok hb.ok⟩
theorem dc_cmp {op : CmpOp} {r : PySem.W.Frag → R2} {g : D → D → Option Bool} (ho : OpR X (compareOp op) (r X.K)) (hr : Cm2 r g) (ha : DV X a ta fa) (hb : DV X b tb fb) (hm : behindInMarks op b = false) : DC X (.Compare a [op] [b] pos) (tTest (tOp (r X.K) ta tb)) (cT (eCmp g fa fb)) := ⟨pt_cmpR ho ha.pe hb.pe hm, (ev_cmp hr ha.ok hb.ok).test⟩
theorem dc_not (h : DC X a tc c) : DC X (.UnaryOp .Not a pos) (tNot tc) (cNot c) := by
  refine ⟨pt_not h.pt, ?_⟩
  intro G0 H0 W H ts vs env σ k env' S e Q q
  obtain ⟨⟨b, e1⟩, h1, h2⟩ := omap e
  cases h2
  exact h.ok _ _ _ _ _ _ _ _ _ _ S h1 _ fun H' s S' => q H' s S'
theorem dw_and1 (h : DC X a tc c) : DW X (.BoolOp .And [a] pos) tc c := ⟨pw_and1 h.pt, h.ok⟩
theorem dw_or1 (h : DC X a tc c) : DW X (.BoolOp .Or [a] pos) tc c := ⟨pw_or1 h.pt, h.ok⟩
theorem dw_and (h : DC X a tc c) (h2 : DW X (.BoolOp .And (b :: rest) pos) td d) : DW X (.BoolOp .And (a :: b :: rest) pos) (tAnd tc td) (cAnd c d) := by
  refine ⟨pw_and h.pt h2.pt, ?_⟩
  intro G0 H0 W H ts vs env σ k env' S e Q q
  obtain ⟨⟨b, e1⟩, g1, g2⟩ := obind e
  refine h.ok _ _ _ _ _ _ _ _ _ _ S g1 _ fun H' s S' => ?_
  cases b with
  | true => rw [if_pos rfl]; exact h2.ok _ _ _ _ _ _ _ _ _ _ S' g2 _ fun H2 s2 S2 => q H2 (s.trans s2) S2
  | false => rw [if_neg Bool.false_ne_true]; cases g2; exact q H' s S'
theorem dw_or (h : DC X a tc c) (h2 : DW X (.BoolOp .Or (b :: rest) pos) td d) : DW X (.BoolOp .Or (a :: b :: rest) pos) (tOr tc td) (cOr c d) := by
  refine ⟨pw_or h.pt h2.pt, ?_⟩
  intro G0 H0 W H ts vs env σ k env' S e Q q
  obtain ⟨⟨b, e1⟩, g1, g2⟩ := obind e
  refine h.ok _ _ _ _ _ _ _ _ _ _ S g1 _ fun H' s S' => ?_
  cases b with
  | true => rw [if_pos rfl]; cases g2; exact q H' s S'
  | false => rw [if_neg Bool.false_ne_true]; exact h2.ok _ _ _ _ _ _ _ _ _ _ S' g2 _ fun H2 s2 S2 => q H2 (s.trans s2) S2
theorem DW.dc (h : DW X e tc c) : DC X e tc c := ⟨h.pt.pt, h.ok⟩
/-- and, or, not as values (bools) -/
def eAnd (fa fb : EF) : EF := fun env => (cT fa env).bind fun r => if r.1 then fb r.2 else some (.p (.bl false), r.2)
def eOr (fa fb : EF) : EF := fun env => (cT fa env).bind fun r => if r.1 then some (.p (.bl true), r.2) else fb r.2
def eNot (fa : EF) : EF := fun env => (cT fa env).map fun r => (.p (.bl (!r.1)), r.2)
theorem dt_one {op} {t : TE} (h : DT X a t fa) : DT X (.BoolOp op [a] pos) t fa := ⟨pe_one h.pe, h.ok⟩
theorem dt_and (h : DT X a ta fa) (h2 : DT X (.BoolOp .And (b :: rest) pos) tb fb) : DT X (.BoolOp .And (a :: b :: rest) pos) (tAndV ta tb) (eAnd fa fb) := by
  refine ⟨pe_and h.pe h2.pe, ?_⟩
  intro G0 H0 W H ts vs env σ k env' S e Q q
  obtain ⟨⟨b, e1⟩, g1, g2⟩ := obind e
  have t1 := h.ok.test _ _ _ _ _ _ _ _ _ _ S g1 (fun b H' => if b = true then tb σ H' Q else Q (.bl false) H') fun H' s S' => by
    cases b with
    | true => rw [if_pos rfl]; exact h2.ok _ _ _ _ _ _ _ _ _ _ S' g2 _ fun v H2 s2 S2 => q v H2 (s.trans s2) S2
    | false => rw [if_neg Bool.false_ne_true]; cases g2; exact q _ H' s (S'.scal fun _ => rfl)
  exact t1
theorem dt_or (h : DT X a ta fa) (h2 : DT X (.BoolOp .Or (b :: rest) pos) tb fb) : DT X (.BoolOp .Or (a :: b :: rest) pos) (tOrV ta tb) (eOr fa fb) := by
  refine ⟨pe_or h.pe h2.pe, ?_⟩
  intro G0 H0 W H ts vs env σ k env' S e Q q
  obtain ⟨⟨b, e1⟩, g1, g2⟩ := obind e
  have t1 := h.ok.test _ _ _ _ _ _ _ _ _ _ S g1 (fun b H' => if b = true then Q (.bl true) H' else tb σ H' Q) fun H' s S' => by
    cases b with
    | true => rw [if_pos rfl]; cases g2; exact q _ H' s (S'.scal fun _ => rfl)
    | false => rw [if_neg Bool.false_ne_true]; exact h2.ok _ _ _ _ _ _ _ _ _ _ S' g2 _ fun v H2 s2 S2 => q v H2 (s.trans s2) S2
  exact t1
theorem dt_not (h : DT X a ta fa) : DT X (.UnaryOp .Not a pos) (tNotV ta) (eNot fa) := by
  refine ⟨pe_not h.pe, ?_⟩
  intro G0 H0 W H ts vs env σ k env' S e Q q
  obtain ⟨⟨b, e1⟩, g1, g2⟩ := omap e
  cases g2
  have t1 := h.ok.test _ _ _ _ _ _ _ _ _ _ S g1 (fun b H' => Q (.bl (!b)) H') fun H' s S' => q _ H' s (S'.scal fun _ => rfl)
  exact t1
theorem dt_ifExp (hc : DC X e tc c) (ha : DT X a ta fa) (hb : DT X b tb fb) : DT X (.IfExp e a b pos) (tIf tc ta tb) (eIf c fa fb) := by
  refine ⟨pe_ifExp hc.pt ha.pe hb.pe, ?_⟩
  intro G0 H0 W H ts vs env σ k env' S e Q q
  obtain ⟨⟨b, e1⟩, g1, g2⟩ := obind e
  refine hc.ok _ _ _ _ _ _ _ _ _ _ S g1 _ fun H' s S' => ?_
  cases b with
  | true => rw [if_pos rfl]; exact ha.ok _ _ _ _ _ _ _ _ _ _ S' g2 _ fun v H2 s2 S2 => q v H2 (s.trans s2) S2
  | false => rw [if_neg Bool.false_ne_true]; exact hb.ok _ _ _ _ _ _ _ _ _ _ S' g2 _ fun v H2 s2 S2 => q v H2 (s.trans s2) S2
/-- a op1 b op2 c of ints -/
def eChain (f g : Int → Int → Bool) (fa fb fc : EF) : EF := fun env => (fa env).bind fun x => (fb x.2).bind fun y => match x.1, y.1 with
  | .p (.int i), .p (.int j) => if f i j then (fc y.2).bind fun z => match z.1 with | .p (.int k) => some (.p (.bl (g j k)), z.2) | _ => none
    else some (.p (.bl false), y.2)
  | _, _ => none
theorem ev_chain {K : PySem.W.Frag} {p q : Int → Int → Bool} {t3 : TE} {fc : EF} (ha : EvT K ta fa) (hb : EvT K tb fb) (hc : EvT K t3 fc) : EvT K (tChain (rI0 fun i j => .bl (p i j)) (rI0 fun i j => .bl (q i j)) ta tb t3) (eChain p q fa fb fc) := by
  intro G0 H0 W H ts vs env σ t env' S e Q w
  obtain ⟨⟨x, e1⟩, h1, h2⟩ := obind e
  obtain ⟨⟨y, e2⟩, h3, h4⟩ := obind h2
  dsimp only at h4
  split at h4
  · rename_i i j
    refine ha _ _ _ _ _ _ _ _ _ _ S h1 _ fun v H1 s1 S1 => ?_
    refine hb _ _ _ _ _ _ _ _ _ _ S1 h3 _ fun u H2 s2 S2 => ?_
    refine ⟨i, j, S2.pop.top, S2.top, p i j, rfl, ?_⟩
    by_cases hp : p i j = true
    · rw [if_pos hp] at h4 ⊢
      obtain ⟨⟨z, e3⟩, h5, h6⟩ := obind h4
      refine hc _ _ _ _ _ _ _ _ _ _ S2 h5 _ fun z' H3 s3 S3 => ?_
      dsimp only at h6
      split at h6
      · rename_i k
        cases h6
        exact ⟨j, k, S3.pop.top, S3.top, w _ H3 ((s1.trans s2).trans s3) (S3.pop.pop.pop.scal fun _ => rfl)⟩
      · cases h6
    · rw [if_neg hp] at h4 ⊢
      cases h4
      exact w _ H2 (s1.trans s2) (S2.pop.pop.scal fun _ => rfl)
  · cases h4
theorem dt_chain {c : Expr} {op op' : CmpOp} {p q : Int → Int → Bool} {t3 : TE} {fc : EF} (ho : OpR X (compareOp op) (rI0 fun i j => .bl (p i j))) (ho' : OpR X (compareOp op') (rI0 fun i j => .bl (q i j))) (ha : DT X a ta fa) (hb : DT X b tb fb) (hc : DT X c t3 fc)
    (hm : lastMarks [op, op'] [b, c] = false := by with_unfolding_all rfl) : DT X (.Compare a [op, op'] [b, c] pos) (tChain (rI0 fun i j => .bl (p i j)) (rI0 fun i j => .bl (q i j)) ta tb t3) (eChain p q fa fb fc) := ⟨pe_chain ho ho' ha.pe hb.pe hc.pe hm, ev_chain ha.ok hb.ok hc.ok⟩
theorem dc_chain {c : Expr} {op op' : CmpOp} {p q : Int → Int → Bool} {t3 : TE} {fc : EF} (ho : OpR X (compareOp op) (rI0 fun i j => .bl (p i j))) (ho' : OpR X (compareOp op') (rI0 fun i j => .bl (q i j))) (ha : DT X a ta fa) (hb : DT X b tb fb) (hc : DT X c t3 fc)
    (hm : lastMarks [op, op'] [b, c] = false := by with_unfolding_all rfl) : DC X (.Compare a [op, op'] [b, c] pos) (tTest (tChain (rI0 fun i j => .bl (p i j)) (rI0 fun i j => .bl (q i j)) ta tb t3)) (cT (eChain p q fa fb fc)) := ⟨pt_chain ho ho' ha.pe hb.pe hc.pe hm, (ev_chain ha.ok hb.ok hc.ok).test⟩
end
end DL

set_option Elab.async false
set_option linter.all false
set_option maxRecDepth 100000
namespace DL
open PySem PySem.Spec PyProof.Rows L2

/-! ### looked-at sequences -/
def itemsT : T → Option (List D)
  | .p (.lst ds) => some ds
  | .p (.tup ds) => some ds
  | .lst ts => allP ts
  | .tup ts => allP ts
  | _ => none
def isLT : T → Bool
  | .p (.lst _) => true
  | .lst _ => true
  | _ => false
section
variable {K : PySem.W.Frag} {G0 H0 H : Hp} {W : List (T × V)} {ts : List T} {vs : List V} {env : Env} {σ : St} {t : T} {v : V}
theorem OkS.pushD {G : Hp} {ot oe : List Addr} : ∀ {ds : List D} {xs : List V}, St0 K G0 H0 W G H ts vs env σ ot oe → RpDs K G ds xs → OkS K G0 H0 W H (ds.map T.p ++ ts) (xs ++ vs) env σ := fun {ds xs} s h =>
  ⟨G, ot, oe, (rpTs_p h).append s.tmp, s.env, s.nd, s.fr, s.g0, s.gh, s.h0, s.nw, s.vw⟩
theorem OkS.items {ds : List D} (S : OkS K G0 H0 ((t, v) :: W) H ts vs env σ) (h : itemsT t = some ds) :
    ∃ a xs, v = .ref a ∧ (isLT t = true → SqL K H a xs) ∧ (isLT t = false → SqT K H a xs) ∧ xs.length = ds.length ∧ OkS K G0 H0 W H (ds.map T.p ++ ts) (xs ++ vs) env σ := by
  obtain ⟨G, ot, oe, s⟩ := S
  obtain ⟨o, r⟩ := s.vw (t, v) (by simp)
  have s' : St0 K G0 H0 W G H ts vs env σ ot oe := ⟨s.tmp, s.env, s.nd, s.fr, s.g0, s.gh, s.h0, s.nw, fun q hq => s.vw q (List.mem_cons_of_mem _ hq)⟩
  cases t with
  | p d =>
    cases d with
    | lst ds' =>
      cases h
      obtain ⟨⟨a, xs, e1, e2, e3⟩, _⟩ := r
      exact ⟨a, xs, e1, fun _ => s.gh.seq (.inl e2), (fun z => by cases z), e3.len, OkS.pushD s' e3⟩
    | tup ds' =>
      cases h
      obtain ⟨⟨a, xs, e1, e2, e3⟩, _⟩ := r
      exact ⟨a, xs, e1, (fun z => by cases z), fun _ => Same.sqT s.gh e2, e3.len, OkS.pushD s' e3⟩
    | _ => cases h
  | lst us =>
    have e := allP_eq (show allP us = some ds from h)
    subst e
    obtain ⟨a, xs, o', e1, e2, e3, e4⟩ := r
    obtain ⟨k1, k2⟩ := rpDs_of e3
    exact ⟨a, xs, e1, fun _ => .inl (.inl e2), (fun z => by cases z), k1.len, OkS.pushD s' k1⟩
  | tup us =>
    have e := allP_eq (show allP us = some ds from h)
    subst e
    obtain ⟨a, xs, e1, e2, e3⟩ := r
    obtain ⟨k1, k2⟩ := rpDs_of e3
    exact ⟨a, xs, e1, (fun z => by cases z), fun _ => .inl (Same.rd s.gh e2), k1.len, OkS.pushD s' k1⟩
  | dic _ => cases h
  | dit _ => cases h
  | obj _ _ => cases h
  | box _ _ => cases h
  | al _ => cases h
end
/-! ### len -/
def lenD : D → Option Int
  | .lst ds => some ds.length
  | .tup ds => some ds.length
  | .str s => if s.length ≤ 16777216 then some s.length else none
  | .dic kvs => none
  | _ => none
def lenT : T → Option Int
  | .p d => lenD d
  | .lst ts => some ts.length
  | .tup ts => some ts.length
  | .dic ts => none
  | _ => none
theorem toDs_length : ∀ ts : List T, (T.toDs ts).length = ts.length
  | [] => rfl
  | t :: ts => by rw [T.toDs, List.length_cons, toDs_length ts, List.length_cons]
theorem lenT_D {t : T} {n : Int} (h : lenT t = some n) : lenD t.toD = some n := by
  cases t with
  | p d => exact h
  | lst ts => rw [← h]; show some ((T.toDs ts).length : Int) = some (ts.length : Int); rw [toDs_length]
  | tup ts => rw [← h]; show some ((T.toDs ts).length : Int) = some (ts.length : Int); rw [toDs_length]
  | dic _ => cases h
  | dit _ => cases h
  | obj _ _ => cases h
  | box _ _ => cases h
  | al _ => cases h
/-- a built-in's one looked-at argument to a scalar -/
def eB1 (g : T → Option D) (f : EF) : EF := fun env => (f env).bind fun r => (g r.1).map fun d => (.p d, r.2)
def Bi1 (r : PySem.W.Frag → List V → Hp → VK → Prop) (g : T → Option D) : Prop := ∀ (K : PySem.W.Frag) (H : Hp) (t : T) (d : D) (v : V) (Q : VK), g t = some d → RpD K H t.toD v → (∀ u, (∀ G, RpD K G d u) → Q u H) → r K [v] H Q
theorem ev_b1 {K : PySem.W.Frag} {r : PySem.W.Frag → List V → Hp → VK → Prop} {g : T → Option D} {te : TE} {f : EF} (hr : Bi1 r g) (h : EvV K te f) : EvT K (tCB (r K) (tCons te tNil)) (eB1 g f) := by
  intro G0 H0 W H ts vs env σ t env' S e Q q
  obtain ⟨⟨x, e1⟩, h1, h2⟩ := obind e
  obtain ⟨d, h3, h4⟩ := omap h2
  cases h4
  refine h _ _ _ _ _ _ _ _ _ _ S h1 _ fun v H1 s1 S1 => ?_
  exact hr K H1 x d v Q h3 (S1.see (q := (x, v)) (by simp)) fun u hu => q u H1 s1 (S1.unview.scal hu)
section
variable {X : Cx} {e a b : Expr} {te ta tb : TE} {f fa fb : EF} {p pos : Pos} {x : Str}
theorem dt_b1 {id : String} {r : PySem.W.Frag → List V → Hp → VK → Prop} {g : T → Option D} (hc : CallR X (.builtin id) (r X.K)) (hr : Bi1 r g) (hg : Gl X x) (hm : X.mg x = none) (hv : bootBuiltins x = some (.builtin id)) (h : DV X e te f)
    (hs : starEach [e] X.env = (false, eval e X.env) :: starEach [] X.env := by rfl) (hn : x ≠ "__name__" := by decide) (hdb : (x == ("__debug__" : Str)) = false := by decide) : DT X (.Call (.Name x p) [e] [] pos) (tCB (r X.K) (tCons te tNil)) (eB1 g f) :=
  ⟨pe_callB hc hg hm hv (pa_cons h.pe pa_nil hs) hn hdb hs, ev_b1 hr h.ok⟩
theorem dt_ty1 {id : String} {r : PySem.W.Frag → List V → Hp → VK → Prop} {g : T → Option D} (hc : CallR X (.type id) (r X.K)) (hr : Bi1 r g) (hg : Gl X x) (hm : X.mg x = none) (hv : bootBuiltins x = some (.type id)) (h : DV X e te f)
    (hs : starEach [e] X.env = (false, eval e X.env) :: starEach [] X.env := by rfl) (hn : x ≠ "__name__" := by decide) (hdb : (x == ("__debug__" : Str)) = false := by decide) : DT X (.Call (.Name x p) [e] [] pos) (tCB (r X.K) (tCons te tNil)) (eB1 g f) :=
  ⟨pe_callTy hc hg hm hv (pa_cons h.pe pa_nil hs) hn hdb hs, ev_b1 hr h.ok⟩
end
def rLenA (K : PySem.W.Frag) : List V → Hp → VK → Prop := fun xs H Q => (∃ p ys, xs = [.ref p] ∧ (SqL K H p ys ∨ SqT K H p ys) ∧ Q (.int ys.length) H) ∨ ∃ z, xs = [.str z] ∧ z.length ≤ sizeLine ∧ Q (.int z.length) H
theorem call_lenA {X : Cx} : CallR X (.builtin "len") (rLenA X.K) := call_len_seq.or call_len_str
def gLen (t : T) : Option D := (lenT t).map D.int
theorem bi_len : Bi1 rLenA gLen := by
  intro K H t d v Q h r q
  obtain ⟨n, h1, h2⟩ := omap h
  subst h2
  have h3 := lenT_D h1
  cases hd : t.toD with
  | lst ds =>
    rw [hd] at h3 r
    obtain ⟨a, xs, e1, e2, e3⟩ := r
    cases h3
    exact .inl ⟨a, xs, by rw [e1], .inl (.inl e2), by rw [e3.len]; exact q _ fun _ => rfl⟩
  | tup ds =>
    rw [hd] at h3 r
    obtain ⟨a, xs, e1, e2, e3⟩ := r
    cases h3
    exact .inl ⟨a, xs, by rw [e1], .inr e2, by rw [e3.len]; exact q _ fun _ => rfl⟩
  | str s =>
    rw [hd] at h3 r
    have h3 : (if s.length ≤ 16777216 then some (s.length : Int) else none) = some n := h3
    by_cases hs : s.length ≤ 16777216
    · rw [if_pos hs] at h3
      cases h3
      exact .inr ⟨s, by rw [show v = _ from r], by rw [sizeLine_eq]; exact hs, q _ fun _ => rfl⟩
    · rw [if_neg hs] at h3; cases h3
  | non => rw [hd] at h3; cases h3
  | bl _ => rw [hd] at h3; cases h3
  | int _ => rw [hd] at h3; cases h3
  | dic _ => rw [hd] at h3; cases h3
  | dit _ => rw [hd] at h3; cases h3
  | obj _ _ => rw [hd] at h3; cases h3
  | al _ => rw [hd] at h3; cases h3
/-! ### sum -/
def intsD : List D → Option (List Int)
  | [] => some []
  | .int i :: r => (intsD r).map (i :: ·)
  | _ => none
theorem intsD_eq : ∀ {ds : List D} {ns : List Int}, intsD ds = some ns → ds = ns.map D.int
  | [], ns, h => by cases h; rfl
  | .int i :: r, ns, h => by
    obtain ⟨ms, h1, h2⟩ := omap (show (intsD r).map (i :: ·) = some ns from h)
    subst h2
    rw [intsD_eq h1]; rfl
  | .non :: _, _, h => by cases h
  | .bl _ :: _, _, h => by cases h
  | .str _ :: _, _, h => by cases h
  | .lst _ :: _, _, h => by cases h
  | .tup _ :: _, _, h => by cases h
  | .dic _ :: _, _, h => by cases h
  | .dit _ :: _, _, h => by cases h
  | .obj _ _ :: _, _, h => by cases h
  | .al _ :: _, _, h => by cases h
@[simp] theorem intsD_map : ∀ ns : List Int, intsD (ns.map D.int) = some ns
  | [] => rfl
  | n :: ns => by show (intsD (ns.map D.int)).map (n :: ·) = _; rw [intsD_map ns]; rfl
theorem rpDs_ints {K : PySem.W.Frag} {G : Hp} : ∀ {ns : List Int} {vs : List V}, RpDs K G (ns.map D.int) vs → vs = ns.map V.int
  | [], vs, h => h
  | n :: ns, vs, ⟨v, r, h1, h2, h3⟩ => by rw [h1, show v = _ from h2, rpDs_ints h3]; rfl
def listD : D → Option (List D)
  | .lst ds => some ds
  | _ => none
def gSum (t : T) : Option D := (listD t.toD).bind fun ds => (intsD ds).map fun ns => .int ns.sum
theorem bi_sum : Bi1 rSum gSum := by
  intro K H t d v Q h r q
  obtain ⟨ds, h1, h2⟩ := obind h
  obtain ⟨ns, h3, h4⟩ := omap h2
  subst h4
  cases hd : t.toD <;> rw [hd] at h1 <;> cases h1
  rw [hd] at r
  obtain ⟨a, xs, e1, e2, e3⟩ := r
  rw [intsD_eq h3] at e3
  rw [rpDs_ints e3] at e2
  exact ⟨a, ns, by rw [e1], .inl e2, q _ fun _ => rfl⟩
/-! ### two ints to one: max, min -/
def eI2 (g : Int → Int → Int) (fr : AF) : EF := fun env => (fr env).bind fun r => match r.1 with
  | [.p (.int i), .p (.int j)] => some (.p (.int (g i j)), r.2)
  | _ => none
section
variable {X : Cx} {e a b : Expr} {es : List Expr} {ta : TA} {fr : AF} {p pos : Pos} {x : Str}
theorem dt_i2 {id : String} {g : Int → Int → Int} {r : List V → Hp → VK → Prop} (hc : CallR X (.builtin id) r) (hr : ∀ (i j : Int) (H : Hp) (Q : VK), Q (.int (g i j)) H → r [.int i, .int j] H Q) (hg : Gl X x) (hm : X.mg x = none) (hv : bootBuiltins x = some (.builtin id)) (h : DA X (a :: es) ta fr)
    (hn : x ≠ "__name__" := by decide) (hdb : (x == ("__debug__" : Str)) = false := by decide) (he : starEach (a :: es) X.env = (false, eval a X.env) :: starEach es X.env := by rfl) (hpl : (backTo pos (starEach es X.env)).any (·.1) = false := by rfl) : DT X (.Call (.Name x p) (a :: es) [] pos) (tCB r ta) (eI2 g fr) := by
  refine ⟨pe_callB hc hg hm hv h.pa hn hdb he hpl, ?_⟩
  intro G0 H0 W H ts vs env σ t env' S e Q q
  obtain ⟨⟨us, e1⟩, h1, h2⟩ := obind e
  dsimp only at h2
  split at h2
  · rename_i i j
    cases h2
    refine h.ok _ _ _ _ _ _ _ _ _ _ S h1 _ fun ws H1 s1 hl S1 => ?_
    match ws, hl with
    | [w1, w2], _ =>
      have e1 : w1 = .int i := S1.top
      have S2 : OkS X.K G0 H0 W H1 (.p (.int j) :: ts) (w2 :: vs) env' σ := S1.pop
      have e2 : w2 = .int j := S2.top
      rw [e1, e2]
      exact hr i j H1 Q (q _ H1 s1 (S2.pop.scal fun _ => rfl))
  · cases h2
end
def maxI (i j : Int) : Int := if j > i then j else i
def minI (i j : Int) : Int := if j < i then j else i
theorem hr_max (i j : Int) (H : Hp) (Q : VK) (q : Q (.int (maxI i j)) H) : (fun (xs : List V) (H : Hp) (Q : VK) => ∃ i j, xs = [.int i, .int j] ∧ Q (.int (if j > i then j else i)) H) [.int i, .int j] H Q := ⟨i, j, rfl, q⟩
theorem hr_min (i j : Int) (H : Hp) (Q : VK) (q : Q (.int (minI i j)) H) : (fun (xs : List V) (H : Hp) (Q : VK) => ∃ i j, xs = [.int i, .int j] ∧ Q (.int (if j < i then j else i)) H) [.int i, .int j] H Q := ⟨i, j, rfl, q⟩
/-! ### str, int of an int or a text -/
def gStr : T → Option D
  | .p (.str s) => some (.str s)
  | .p (.int i) => if i.natAbs < 1606938044258990275541962092341162602522202993782792835301376 then some (.str (toString i)) else none
  | _ => none
def rStrA (_ : PySem.W.Frag) : List V → Hp → VK → Prop := fun xs H Q => (∃ a, xs = [.str a] ∧ Q (.str a) H) ∨ ∃ i : Int, xs = [.int i] ∧ i.natAbs.log2 < 1920 ∧ Q (.str (toString i)) H
theorem call_strA {X : Cx} : CallR X (.type "str") (rStrA X.K) := CallR.or SkE.call_str_str call_str_int
theorem bi_str : Bi1 rStrA gStr := by
  intro K H t d v Q h r q
  unfold gStr at h
  split at h
  · cases h; exact .inl ⟨_, by rw [show v = _ from r], q _ fun _ => rfl⟩
  · rename_i i
    by_cases hi : i.natAbs < 1606938044258990275541962092341162602522202993782792835301376
    · rw [if_pos hi] at h
      cases h
      refine .inr ⟨i, by rw [show v = _ from r], ?_, q _ fun _ => rfl⟩
      have e : (2 : Nat) ^ 200 = 1606938044258990275541962092341162602522202993782792835301376 := by decide
      rw [← e] at hi
      exact Nat.lt_of_lt_of_le (PySem.Flt.log2_lt_of (by decide) hi) (by decide)
    · rw [if_neg hi] at h; cases h
  · cases h
def gInt : T → Option D
  | .p (.int i) => some (.int i)
  | .p (.bl b) => some (.int (if b then 1 else 0))
  | .p (.str s) => if s.length ≤ 640 then (PySem.intText? s).map D.int else none
  | _ => none
def rIntA (_ : PySem.W.Frag) : List V → Hp → VK → Prop := fun xs H Q => ((∃ i, xs = [.int i] ∧ Q (.int i) H) ∨ ∃ k, xs = [.bl k] ∧ Q (.int (if k then 1 else 0)) H) ∨ ∃ a n, xs = [.str a] ∧ PySem.intText? a = some n ∧ a.length ≤ 640 ∧ Q (.int n) H
theorem call_intA {X : Cx} : CallR X (.type "int") (rIntA X.K) := call_int1.or call_int_str
theorem bi_int : Bi1 rIntA gInt := by
  intro K H t d v Q h r q
  unfold gInt at h
  split at h
  · cases h; exact .inl (.inl ⟨_, by rw [show v = _ from r], q _ fun _ => rfl⟩)
  · cases h; exact .inl (.inr ⟨_, by rw [show v = _ from r], q _ fun _ => rfl⟩)
  · rename_i s
    by_cases hs : s.length ≤ 640
    · rw [if_pos hs] at h
      obtain ⟨n, h1, h2⟩ := omap h
      subst h2
      exact .inr ⟨s, n, by rw [show v = _ from r], h1, hs, q _ fun _ => rfl⟩
    · rw [if_neg hs] at h; cases h
  · cases h
/-! ### isinstance of a built-in class -/
def tyD : D → String
  | .non => "NoneType" | .bl _ => "bool" | .int _ => "int" | .str _ => "str" | .lst _ => "list" | .tup _ => "tuple" | .dic _ => "dict" | _ => "dict"
def tyOk : D → Bool
  | .obj _ _ => false
  | .al _ => false
  | .dit _ => false
  | .dic _ => false
  | _ => true
theorem tyD_x {K : PySem.W.Frag} {H : Hp} {d : D} {v : V} (r : RpD K H d v) (hok : tyOk d = true) : TyX K H v (.type (tyD d)) := by
  cases d with
  | non => rw [show v = _ from r]; exact .base .non
  | bl b => rw [show v = _ from r]; exact .base (.bl b)
  | int i => rw [show v = _ from r]; exact .base (.int i)
  | str s => rw [show v = _ from r]; exact .base (.str s)
  | lst ds =>
    obtain ⟨a, xs, rfl, h, _⟩ := r
    rcases h with h | ⟨o, h⟩
    · exact .base (.lst h)
    · exact .base (.frz h)
  | tup ds =>
    obtain ⟨a, xs, rfl, h, _⟩ := r
    rcases h with (h | ⟨o, h⟩) | ⟨o, its, n, h, hc, _⟩
    · exact .base (.tup h)
    · exact .fTuple h
    · exact .kTuple h hc
  | dic ds => cases hok
  | dit _ => cases hok
  | obj _ _ => cases hok
  | al _ => cases hok
def eIsi (ty : String) (f : EF) : EF := fun env => (f env).bind fun r => if tyOk r.1.toD = true then (kitB (tyD r.1.toD) ty).map fun b => (.p (.bl b), r.2) else none
theorem dt_isi {X : Cx} {e : Expr} {te : TE} {f : EF} {p pos p2 : Pos} {ty : String} {x : Str} (hg : Gl X "isinstance") (hm : X.mg "isinstance" = none) (h : DV X e te f) (hgT : Gl X x) (hmT : X.mg x = none) (hvT : bootBuiltins x = some (.type ty))
    (hv : bootBuiltins "isinstance" = some (.builtin "isinstance") := by decide +kernel) (hs : starEach [e, .Name x p2] X.env = (false, eval e X.env) :: starEach [.Name x p2] X.env := by rfl) (hs2 : starEach [.Name x p2] X.env = (false, eval (.Name x p2) X.env) :: starEach [] X.env := by rfl) (hn : x ≠ "__name__" := by decide) (hd : (x == ("__debug__" : Str)) = false := by decide) :
    DT X (.Call (.Name "isinstance" p) [e, .Name x p2] [] pos) (tCB (rIsi X.K) (tCons te (tCons (tC (.ty ty)) tNil))) (eIsi ty f) := by
  refine ⟨pe_callB call_isi hg hm hv (pa_cons h.pe (pa_cons (pe_bltn hgT hmT hvT (show RelV (.ty ty) (.type ty) from rfl) hn hd) pa_nil hs2) hs) (by decide) (by decide) hs (by rw [hs2]; rfl), ?_⟩
  intro G0 H0 W H ts vs env σ t env' S e Q q
  obtain ⟨⟨u, e1⟩, h1, h2⟩ := obind e
  have hk : tyOk u.toD = true := by
    by_cases c : tyOk u.toD = true
    · exact c
    · rw [if_neg (show ¬ tyOk (u, e1).1.toD = true from c)] at h2; cases h2
  rw [if_pos (show tyOk (u, e1).1.toD = true from hk)] at h2
  obtain ⟨b, h3, h4⟩ := omap h2
  cases h4
  refine h.ok _ _ _ _ _ _ _ _ _ _ S h1 _ fun v H1 s1 S1 => ?_
  exact ⟨v, .ty ty, _, _, b, rfl, .ty ty, tyD_x (S1.see (q := (u, v)) (by simp)) hk, kit_ty h3, q _ H1 s1 (S1.unview.scal fun _ => rfl)⟩
/-! ### list(x), tuple(x) -/
def eList (f : EF) : EF := fun env => (f env).bind fun r => (itemsT r.1).map fun ds => (.lst (ds.map T.p), r.2)
def eTuple (f : EF) : EF := fun env => (f env).bind fun r => (itemsT r.1).map fun ds => (.p (.tup ds), r.2)
section
variable {X : Cx} {e a b : Expr} {te ta tb : TE} {f fa fb : EF} {p pos : Pos}
theorem dt_list (hg : Gl X "list") (hm : X.mg "list" = none) (h : DV X e te f) (hv : bootBuiltins "list" = some (.type "list") := by decide +kernel) (hs : starEach [e] X.env = (false, eval e X.env) :: starEach [] X.env := by rfl) :
    DT X (.Call (.Name "list" p) [e] [] pos) (tCB (fun xs H Q => ∃ p ys, xs = [.ref p] ∧ (SqL X.K H p ys ∨ SqT X.K H p ys) ∧ ∀ l, H l = none → Q (.ref l) (upd H l (.lst ys))) (tCons te tNil)) (eList f) := by
  refine ⟨pe_callTy call_list_of hg hm hv (pa_cons h.pe pa_nil hs) (by decide) (by decide) hs, ?_⟩
  intro G0 H0 W H ts vs env σ t env' S e Q q
  obtain ⟨⟨u, e1⟩, h1, h2⟩ := obind e
  obtain ⟨ds, h3, h4⟩ := omap h2
  cases h4
  refine h.ok _ _ _ _ _ _ _ _ _ _ S h1 _ fun v H1 s1 S1 => ?_
  obtain ⟨a, xs, rfl, k1, k2, k3, S2⟩ := S1.items h3
  refine ⟨a, xs, rfl, ?_, fun l hl => q _ _ (s1.trans (same_upd hl)) (S2.newL (by rw [List.length_map]; exact k3) hl)⟩
  cases hk : isLT u with
  | true => exact .inl (k1 hk)
  | false => exact .inr (k2 hk)
theorem dt_tuple (hg : Gl X "tuple") (hm : X.mg "tuple" = none) (h : DV X e te f) (hv : bootBuiltins "tuple" = some (.type "tuple") := by decide +kernel) (hs : starEach [e] X.env = (false, eval e X.env) :: starEach [] X.env := by rfl) :
    DT X (.Call (.Name "tuple" p) [e] [] pos) (tCB (fun xs H Q => ∃ p ys, xs = [.ref p] ∧ ((SqL X.K H p ys ∧ ∀ l, H l = none → Q (.ref l) (upd H l (.tup ys))) ∨ (SqT X.K H p ys ∧ Q (.ref p) H))) (tCons te tNil)) (eTuple f) := by
  refine ⟨pe_callTy call_tuple_of hg hm hv (pa_cons h.pe pa_nil hs) (by decide) (by decide) hs, ?_⟩
  intro G0 H0 W H ts vs env σ t env' S e Q q
  obtain ⟨⟨u, e1⟩, h1, h2⟩ := obind e
  obtain ⟨ds, h3, h4⟩ := omap h2
  cases h4
  refine h.ok _ _ _ _ _ _ _ _ _ _ S h1 _ fun v H1 s1 S1 => ?_
  obtain ⟨a, xs, rfl, k1, k2, k3, S2⟩ := S1.items h3
  cases hk : isLT u with
  | true =>
    refine ⟨a, xs, rfl, .inl ⟨k1 hk, fun l hl => ?_⟩⟩
    have S3 := S2.newT (by rw [List.length_map]; exact k3) hl
    rw [mkTup_p] at S3
    exact q _ _ (s1.trans (same_upd hl)) S3
  | false =>
    refine ⟨a, xs, rfl, .inr ⟨k2 hk, ?_⟩⟩
    obtain ⟨G, ot, oe, s⟩ := S1
    obtain ⟨o, r⟩ := s.vw (u, .ref a) (by simp)
    have rp : RpD X.K G (.tup ds) (.ref a) := by
      cases u with
      | p d => cases d <;> cases h3 <;> first | exact r.1 | cases hk
      | lst us => cases hk
      | tup us =>
        have e := allP_eq (show allP us = some ds from h3)
        subst e
        obtain ⟨a', xs', e1, e2, e3⟩ := r
        exact ⟨a', xs', e1, .inl e2, (rpDs_of e3).1⟩
      | dic _ => cases h3
      | dit _ => cases h3
      | obj _ _ => cases h3
      | box _ _ => cases h3
      | al _ => cases h3
    exact q _ H1 s1 ⟨G, ot, oe, ⟨.ref a, vs, [], ot, rfl, ⟨rp, rfl⟩, s.tmp, rfl⟩, s.env, s.nd, s.fr, s.g0, s.gh, s.h0, s.nw, fun q hq => s.vw q (List.mem_cons_of_mem _ hq)⟩
end
end DL

set_option Elab.async false
set_option linter.all false
set_option maxRecDepth 100000
namespace DL
open PySem PySem.Spec PyProof.Rows L2

/-! ### items -/
def ixT : T → Int → Option T
  | .p (.lst ds), i => (atI ds i).map T.p
  | .p (.tup ds), i => (atI ds i).map T.p
  | .p (.str z), i => if z.length ≤ 16777216 then (atI z.cps.toList i).map fun c => .p (.str ⟨#[c]⟩) else none
  | .lst ts, i => atI ts i
  | .tup ts, i => atI ts i
  | _, _ => none
section
variable {K : PySem.W.Frag} {G0 H0 H G : Hp} {W : List (T × V)} {ts : List T} {vs : List V} {env : Env} {σ : St} {t : T} {v : V}
theorem atI_ix {α : Type} {xs : List α} {i : Int} {x : α} (h : atI xs i = some x) : ∃ j, ixN xs.length i = some j ∧ xs[j]? = some x := obind h
theorem atI_of {α : Type} {xs : List α} {n : Nat} {i : Int} {j : Nat} {x : α} (h : ixN n i = some j) (hn : xs.length = n) (hx : xs[j]? = some x) : atI xs i = some x := by
  unfold atI
  rw [hn, h]; exact hx
theorem RpTs.get : ∀ {ts : List T} {vs : List V} {o : List Addr} {i : Nat} {t : T}, RpTs K G H ts vs o → ts[i]? = some t → ∃ v o1, vs[i]? = some v ∧ Rp K G H t v o1
  | [], _, _, _, _, _, e => by simp at e
  | t :: ts, _, _, 0, t', ⟨v, r, o1, o2, h1, h2, h3, h4⟩, e => by
    simp at e; subst e; subst h1; exact ⟨v, o1, rfl, h2⟩
  | t :: ts, _, _, i + 1, t', ⟨v, r, o1, o2, h1, h2, h3, h4⟩, e => by
    subst h1
    obtain ⟨u, p, h5, h6⟩ := RpTs.get (i := i) h3 (by simpa using e)
    exact ⟨u, p, by simpa using h5, h6⟩
theorem OkS.ix {i : Int} {t' : T} (S : OkS K G0 H0 ((t, v) :: W) H ts vs env σ) (h : ixT t i = some t') :
    (∃ a xs v', v = .ref a ∧ (SqL K H a xs ∨ SqT K H a xs) ∧ (isLT t = true → SqL K H a xs) ∧ atI xs i = some v' ∧ OkS K G0 H0 ((t', v') :: W) H ts vs env σ) ∨ ∃ z c, v = .str z ∧ z.length ≤ sizeLine ∧ atI z.cps.toList i = some c ∧ t' = .p (.str ⟨#[c]⟩) := by
  obtain ⟨G, ot, oe, s⟩ := S
  obtain ⟨o, r⟩ := s.vw (t, v) (by simp)
  have mk : ∀ v' o', Rp K G H t' v' o' → OkS K G0 H0 ((t', v') :: W) H ts vs env σ := fun v' o' r' => ⟨G, ot, oe, s.tmp, s.env, s.nd, s.fr, s.g0, s.gh, s.h0, s.nw, fun q hq => by
    rcases List.mem_cons.mp hq with e | hq
    · subst e; exact ⟨o', r'⟩
    · exact s.vw q (List.mem_cons_of_mem _ hq)⟩
  cases t with
  | p d =>
    cases d with
    | lst ds =>
      obtain ⟨d, h1, h2⟩ := omap (show (atI ds i).map T.p = some t' from h)
      subst h2
      obtain ⟨⟨a, xs, e1, e2, e3⟩, _⟩ := r
      obtain ⟨j, k1, k2⟩ := atI_ix h1
      obtain ⟨v', k3, k4⟩ := e3.get k2
      exact .inl ⟨a, xs, v', e1, .inl (s.gh.seq (.inl e2)), (fun _ => s.gh.seq (.inl e2)), atI_of k1 e3.len k3, mk v' [] ⟨k4, rfl⟩⟩
    | tup ds =>
      obtain ⟨d, h1, h2⟩ := omap (show (atI ds i).map T.p = some t' from h)
      subst h2
      obtain ⟨⟨a, xs, e1, e2, e3⟩, _⟩ := r
      obtain ⟨j, k1, k2⟩ := atI_ix h1
      obtain ⟨v', k3, k4⟩ := e3.get k2
      exact .inl ⟨a, xs, v', e1, .inr (Same.sqT s.gh e2), (fun z => by cases z), atI_of k1 e3.len k3, mk v' [] ⟨k4, rfl⟩⟩
    | str z =>
      have h : (if z.length ≤ 16777216 then (atI z.cps.toList i).map fun c => T.p (.str ⟨#[c]⟩) else none) = some t' := h
      by_cases hz : z.length ≤ 16777216
      · rw [if_pos hz] at h
        obtain ⟨c, h1, h2⟩ := omap h
        exact .inr ⟨z, c, r.1, by rw [sizeLine_eq]; exact hz, h1, h2.symm⟩
      · rw [if_neg hz] at h; cases h
    | _ => cases h
  | lst us =>
    obtain ⟨a, xs, o', e1, e2, e3, e4⟩ := r
    obtain ⟨j, k1, k2⟩ := atI_ix (show atI us i = some t' from h)
    obtain ⟨v', o1, k3, k4⟩ := e3.get k2
    exact .inl ⟨a, xs, v', e1, .inl (.inl (.inl e2)), (fun _ => .inl (.inl e2)), atI_of k1 e3.len k3, mk v' o1 k4⟩
  | tup us =>
    obtain ⟨a, xs, e1, e2, e3⟩ := r
    obtain ⟨j, k1, k2⟩ := atI_ix (show atI us i = some t' from h)
    obtain ⟨v', o1, k3, k4⟩ := e3.get k2
    exact .inl ⟨a, xs, v', e1, .inr (.inl (Same.rd s.gh e2)), (fun z => by cases z), atI_of k1 e3.len k3, mk v' o1 k4⟩
  | dic _ => cases h
  | dit _ => cases h
  | obj _ _ => cases h
  | box _ _ => cases h
  | al _ => cases h
theorem OkS.viewS {z : D} {u : V} (S : OkS K G0 H0 W H ts vs env σ) (h : ∀ G, RpD K G z u) : OkS K G0 H0 ((.p z, u) :: W) H ts vs env σ := (S.scal h).toview
end
def eIx (fa fi : EF) : EF := fun env => (fa env).bind fun r => (fi r.2).bind fun s => match s.1 with
  | .p (.int i) => (ixT r.1 i).map fun t => (t, s.2)
  | _ => none
section
variable {X : Cx} {e a b : Expr} {te ta tb : TE} {f fa fb : EF} {p pos : Pos}
theorem dv_ix (ha : DV X a ta fa) (hb : DT X b tb fb) (hs : PlainIx b := by exact fun _ _ => rfl) : DV X (.Subscript a b pos) (tOp (rIx X.K) ta tb) (eIx fa fb) := by
  refine ⟨pe_ix ix_seq ha.pe hb.pe hs, ?_⟩
  intro G0 H0 W H ts vs env σ t env' S g Q q
  obtain ⟨⟨x, e1⟩, h1, h2⟩ := obind g
  obtain ⟨⟨y, e2⟩, h3, h4⟩ := obind h2
  dsimp only at h4
  split at h4
  · rename_i i
    obtain ⟨t', h5, h6⟩ := omap h4
    cases h6
    refine ha.ok _ _ _ _ _ _ _ _ _ _ S h1 _ fun v H1 s1 S1 => ?_
    refine hb.ok _ _ _ _ _ _ _ _ _ _ S1 h3 _ fun w H2 s2 S2 => ?_
    have ew : w = .int i := S2.top
    subst ew
    rcases S2.pop.ix h5 with ⟨a, xs, v', e1, e2, _, e3, S3⟩ | ⟨z, c, e1, e2, e3, e4⟩
    · rcases e2 with e2 | e2
      · exact .inl ⟨a, xs, i, v', e1, rfl, e2, e3, q _ H2 (s1.trans s2) S3⟩
      · exact .inr (.inl ⟨a, xs, i, v', e1, rfl, e2, e3, q _ H2 (s1.trans s2) S3⟩)
    · subst e4
      exact .inr (.inr ⟨z, i, c, e1, rfl, e2, e3, q _ H2 (s1.trans s2) (S2.pop.unview.viewS fun _ => rfl)⟩)
  · cases h4
end
/-! ### slices -/
abbrev OF := Env → Option (Option Int × Env)
def EvO (K : PySem.W.Frag) (to : TO) (f : OF) : Prop := ∀ (G0 H0 : Hp) (W : List (T × V)) (H : Hp) (ts : List T) (vs : List V) (env : Env) (σ : St) (o : Option Int) (env' : Env), OkS K G0 H0 W H ts vs env σ → f env = some (o, env') →
  ∀ Q : Option Int → Hp → Prop, (∀ H', Same H H' → OkS K G0 H0 W H' ts vs env' σ → Q o H') → to σ H Q
structure DO (X : Cx) (e : Option Expr) (to : TO) (f : OF) : Prop where
  po : PO X e to
  ok : EvO X.K to f
def oN : OF := fun env => some (none, env)
def oS (f : EF) : OF := fun env => (f env).bind fun r => match r.1 with | .p (.int i) => some (some i, r.2) | _ => none
def cutD (ds : List D) (lo hi : Option Int) : List D := (ds.drop (HT.sIx ds.length 0 lo)).take (HT.sIx ds.length ds.length hi - HT.sIx ds.length 0 lo)
def cutT (t : T) (lo hi : Option Int) : Option T := match t with
  | .p (.str z) => if z.length ≤ 16777216 then some (.p (.str (cutS z lo hi))) else none
  | .p (.lst ds) => some (.lst ((cutD ds lo hi).map T.p))
  | .lst ts => (allP ts).map fun ds => .lst ((cutD ds lo hi).map T.p)
  | .p (.tup ds) => if HT.sIx ds.length 0 lo = 0 ∧ HT.sIx ds.length ds.length hi = ds.length then none else some (.p (.tup (cutD ds lo hi)))
  | _ => none
def eSl (fa : EF) (lo hi : OF) : EF := fun env => (fa env).bind fun r => (lo r.2).bind fun l => (hi l.2).bind fun u => (cutT r.1 l.1 u.1).map fun t => (t, u.2)
theorem RpDs.cut {K : PySem.W.Frag} {G : Hp} {ds : List D} {xs : List V} (h : RpDs K G ds xs) (lo hi : Option Int) : RpDs K G (cutD ds lo hi) (cutV xs lo hi) := by
  unfold cutD cutV
  rw [h.len]
  exact (h.drop _).take _
def rSlA (K : PySem.W.Frag) : V → Option Int → Option Int → Hp → VK → Prop := fun x lo hi H Q => rSlL K x lo hi H Q ∨ rSlT K x lo hi H Q ∨ rSlS x lo hi H Q
theorem sl_any {X : Cx} : SlR X (rSlA X.K) := sl_list.or (sl_tup.or sl_str)
section
variable {X : Cx} {e : Expr} {te : TE} {f : EF} {lo hi : Option Expr} {tl th : TO} {fl fh : OF} {pos p2 : Pos}
theorem do_none : DO X none tNoPart oN := ⟨po_none, fun _ _ _ H _ _ _ _ _ _ S e Q q => by cases e; exact q H (Same.refl _) S⟩
theorem do_some (h : DT X e te f) : DO X (some e) (tPart te) (oS f) := by
  refine ⟨po_some h.pe, ?_⟩
  intro G0 H0 W H ts vs env σ o env' S g Q q
  obtain ⟨⟨x, e1⟩, h1, h2⟩ := obind g
  dsimp only at h2
  split at h2
  · rename_i i
    cases h2
    exact h.ok _ _ _ _ _ _ _ _ _ _ S h1 _ fun v H1 s1 S1 => ⟨i, S1.top, q H1 s1 S1.pop⟩
  · cases h2
theorem dt_sl (h : DV X e te f) (hl : DO X lo tl fl) (hh : DO X hi th fh) : DT X (.Subscript e (.Slice lo hi none p2) pos) (tSl (rSlA X.K) te tl th) (eSl f fl fh) := by
  refine ⟨pe_slice sl_any h.pe hl.po hh.po, ?_⟩
  intro G0 H0 W H ts vs env σ t env' S g Q q
  obtain ⟨⟨x, e1⟩, h1, h2⟩ := obind g
  obtain ⟨⟨l, e2⟩, h3, h4⟩ := obind h2
  obtain ⟨⟨u, e3⟩, h5, h6⟩ := obind h4
  obtain ⟨t', h7, h8⟩ := omap h6
  cases h8
  refine h.ok _ _ _ _ _ _ _ _ _ _ S h1 _ fun v H1 s1 S1 => ?_
  refine hl.ok _ _ _ _ _ _ _ _ _ _ S1 h3 _ fun H2 s2 S2 => ?_
  refine hh.ok _ _ _ _ _ _ _ _ _ _ S2 h5 _ fun H3 s3 S3 => ?_
  have s13 := (s1.trans s2).trans s3
  have lst : ∀ ds, itemsT x = some ds → isLT x = true → t = .lst ((cutD ds l u).map T.p) → rSlA X.K v l u H3 Q := fun ds hi hL ht => by
    obtain ⟨G, ot, oe, s⟩ := S3
    obtain ⟨o, r⟩ := s.vw (x, v) (by simp)
    have s' : St0 X.K G0 H0 W G H3 ts vs _ σ ot oe := ⟨s.tmp, s.env, s.nd, s.fr, s.g0, s.gh, s.h0, s.nw, fun q hq => s.vw q (List.mem_cons_of_mem _ hq)⟩
    obtain ⟨a, xs, rfl, k1, _, _, _⟩ := OkS.items ⟨G, ot, oe, s⟩ hi
    have rp : ∃ xs, SqL X.K H3 a xs ∧ RpDs X.K G ds xs := by
      cases x with
      | p d =>
        cases d with
        | lst ds' =>
          cases hi
          obtain ⟨⟨a', xs', e1, e2, e3⟩, _⟩ := r
          cases e1
          exact ⟨xs', s.gh.seq (.inl e2), e3⟩
        | tup ds' => cases hL
        | _ => cases hi
      | lst us =>
        have e := allP_eq (show allP us = some ds from hi)
        subst e
        obtain ⟨a', xs', o', e1, e2, e3, e4⟩ := r
        cases e1
        exact ⟨xs', .inl (.inl e2), (rpDs_of e3).1⟩
      | tup us => cases hL
      | dic _ => cases hi
      | dit _ => cases hi
      | obj _ _ => cases hi
      | box _ _ => cases hi
      | al _ => cases hi
    obtain ⟨xs, hx, hr⟩ := rp
    refine .inl ⟨a, xs, rfl, hx, fun p hp => ?_⟩
    subst ht
    have hc := hr.cut l u
    exact q _ _ (s13.trans (same_upd hp)) (OkS.newL (by rw [List.length_map]; exact hc.len) (OkS.pushD s' hc) hp)
  have h7 : cutT x l u = some t := h7
  cases x with
  | p d =>
    cases d with
    | str z =>
      have h7 : (if z.length ≤ 16777216 then some (T.p (.str (cutS z l u))) else none) = some t := h7
      by_cases hz : z.length ≤ 16777216
      · rw [if_pos hz] at h7
        cases h7
        exact .inr (.inr ⟨z, (S3.see (q := (T.p (.str z), v)) (by simp)), by rw [sizeLine_eq]; exact hz, q _ H3 s13 (S3.unview.scal fun _ => rfl)⟩)
      · rw [if_neg hz] at h7; cases h7
    | lst ds =>
      cases h7
      exact lst ds rfl rfl rfl
    | tup ds =>
      have h7 : (if HT.sIx ds.length 0 l = 0 ∧ HT.sIx ds.length ds.length u = ds.length then none else some (T.p (.tup (cutD ds l u)))) = some t := h7
      by_cases hw : HT.sIx ds.length 0 l = 0 ∧ HT.sIx ds.length ds.length u = ds.length
      · rw [if_pos hw] at h7; cases h7
      · rw [if_neg hw] at h7
        cases h7
        obtain ⟨G, ot, oe, s⟩ := S3
        obtain ⟨o, r⟩ := s.vw (.p (.tup ds), v) (by simp)
        have s' : St0 X.K G0 H0 W G H3 ts vs _ σ ot oe := ⟨s.tmp, s.env, s.nd, s.fr, s.g0, s.gh, s.h0, s.nw, fun q hq => s.vw q (List.mem_cons_of_mem _ hq)⟩
        obtain ⟨⟨a, xs, e1, e2, e3⟩, _⟩ := r
        refine .inr (.inl ⟨a, xs, e1, Same.sqT s.gh e2, by rw [e3.len]; exact hw, fun p hp => ?_⟩)
        have hc := e3.cut l u
        have S4 := OkS.newT (by rw [List.length_map]; exact hc.len) (OkS.pushD s' hc) hp
        rw [mkTup_p] at S4
        exact q _ _ (s13.trans (same_upd hp)) S4
    | _ => cases h7
  | lst us =>
    obtain ⟨ds, k1, k2⟩ := omap (show (allP us).map (fun ds => T.lst ((cutD ds l u).map T.p)) = some t from h7)
    exact lst ds k1 rfl k2.symm
  | _ => cases h7
end
/-! ### what is changed in place -/
section
variable {K : PySem.W.Frag} {G0 H0 H : Hp} {W : List (T × V)} {ts : List T} {vs : List V} {env : Env} {σ : St} {t : T} {v : V}
theorem OkS.wrL {us es : List T} {ws : List V} (S : OkS K G0 H0 W H (.lst us :: (es ++ ts)) (v :: (ws ++ vs)) env σ) (hw : ws.length = es.length) : ∃ a xs, v = .ref a ∧ H a = some (.lst xs) ∧ xs.length = us.length ∧
    ∀ (us' : List T) (xs' : List V), (∀ (G : Hp) (o1 o2 : List Addr), RpTs K G H us xs o1 → RpTs K G H es ws o2 → ∃ o' r, RpTs K G H us' xs' o' ∧ (o1 ++ o2).Perm (o' ++ r)) → OkS K G0 H0 [] (upd H a (.lst xs')) (.lst us' :: ts) (.ref a :: vs) env σ := by
  obtain ⟨G, ot, oe, s⟩ := S
  obtain ⟨v0, r0, oa, ob, h1, ⟨a, xs, o1, e1, e2, e3, e4⟩, h3, h4⟩ := s.tmp
  cases h1
  obtain ⟨o2, o3, k1, k2, k3⟩ := h3.split hw
  refine ⟨a, xs, e1, e2, e3.len, fun us' xs' hf => ?_⟩
  obtain ⟨o', r, f1, f2⟩ := hf G o1 o2 e3 k1
  have pm : (ot ++ oe).Perm (a :: (o' ++ (o3 ++ oe)) ++ r) := by
    rw [h4, e4, k3]
    have q1 : (a :: o1 ++ (o2 ++ o3) ++ oe) = a :: ((o1 ++ o2) ++ (o3 ++ oe)) := by simp
    rw [q1, List.cons_append]
    refine List.Perm.cons a ?_
    refine (List.Perm.append_right _ f2).trans ?_
    rw [List.append_assoc, List.append_assoc]
    exact List.Perm.append_left _ List.perm_append_comm
  have nd := (List.nodup_append.mp (pm.nodup_iff.mp s.nd)).1
  have na : ∀ b ∈ o' ++ (o3 ++ oe), b ≠ a := fun b hb e => by
    subst e
    exact (List.nodup_cons.mp nd).1 hb
  have kp : ∀ b ∈ o' ++ (o3 ++ oe), upd H a (.lst xs') b = H b := fun b hb => upd_ne (na b hb)
  have fr : ∀ b ∈ a :: (o' ++ (o3 ++ oe)), G b = none ∧ H0 b = none := fun b hb => s.fr b (pm.mem_iff.mpr (List.mem_append_left _ hb))
  refine ⟨G, a :: o' ++ o3, oe, ⟨.ref a, vs, a :: o', o3, rfl, ⟨a, xs', o', rfl, upd_same, f1.mono (Same.refl _) _ (fun b hb => kp b (by simp [hb])), rfl⟩, k2.mono (Same.refl _) _ (fun b hb => kp b (by simp [hb])), rfl⟩, s.env.mono (Same.refl _) _ (fun b hb => kp b (by simp [hb])), by simpa using nd, fun b hb => fr b (by simpa using hb), s.g0, fun b u e => ?_, fun b u e => ?_, s.nw, fun q hq => by cases hq⟩
  · have : b ≠ a := fun z => by subst z; rw [(fr b (by simp)).1] at e; cases e
    rw [upd_ne this]; exact s.gh b u e
  · have : b ≠ a := fun z => by subst z; rw [(fr b (by simp)).2] at e; cases e
    rw [upd_ne this]; exact s.h0 b u e
theorem RpTs.set {G : Hp} : ∀ {ts : List T} {vs : List V} {o : List Addr} {i : Nat} {t : T} {v : V} {o1 : List Addr}, RpTs K G H ts vs o → i < ts.length → Rp K G H t v o1 → ∃ o' r, RpTs K G H (ts.set i t) (vs.set i v) o' ∧ (o ++ o1).Perm (o' ++ r)
  | [], _, _, _, _, _, _, _, hi, _ => by simp at hi
  | u :: us, _, _, 0, t, v, o1, ⟨w, r, p1, p2, h1, h2, h3, h4⟩, _, h => by
    subst h1; subst h4
    refine ⟨o1 ++ p2, p1, ⟨v, r, o1, p2, rfl, h, h3, rfl⟩, ?_⟩
    rw [List.append_assoc]
    refine List.perm_append_comm.trans ?_
    exact List.Perm.append_right _ List.perm_append_comm
  | u :: us, _, _, i + 1, t, v, o1, ⟨w, r, p1, p2, h1, h2, h3, h4⟩, hi, h => by
    subst h1; subst h4
    obtain ⟨o', r', g1, g2⟩ := RpTs.set (i := i) h3 (by simpa using hi) h
    refine ⟨p1 ++ o', r', ⟨w, _, p1, o', rfl, h2, g1, rfl⟩, ?_⟩
    rw [List.append_assoc, List.append_assoc]
    exact List.Perm.append_left _ g2
end
/-- x.append(e), x a name -/
def sApp (i : Nat) (f : EF) : SF := fun env => match env[i]? with
  | some (some (.lst _)) => (f env).bind fun r => match r.2[i]? with
    | some (some (.lst us)) => if us.length < 16000000 then some (.nx, r.2.set i (some (.lst (us ++ [r.1])))) else none
    | _ => none
  | _ => none
section
variable {X : Cx} {e : Expr} {te : TE} {f : EF} {pos cpos apos npos : Pos}
theorem ds_app (i : Nat) {x : Str} (h : DT X e te f) (hN : X.N[i]? = some x := by rfl) (hv : Vis X.env.scope x := by first | exact Or.inl rfl | exact Or.inr (Or.inl rfl) | exact Or.inr (Or.inr rfl)) (hd : (x == ("__debug__" : Str)) = false := by decide) (hcd : (x == ("__classdict__" : Str)) = false := by decide)
    (hse : starEach [e] X.env = (false, eval e X.env) :: starEach [] X.env := by rfl)
    (hfew : ((backTo cpos (starEach [e] X.env)).all (fun x => !x.1) && (backToKw cpos (keywordEach [] X.env)).all (fun x => x.1.isSome)
      && decide ([e].length + ([] : List Keyword).length + (if ([] : List Keyword).isEmpty then 0 else 1) < 30)) = true := by rfl)
    (hline : (apos.endLine == cpos.line) = true := by rfl)
    (hs : swapsWith (.Call (.Attribute (.Name x npos) "append" apos) [e] [] cpos) none pos.line X.env = pure false := by rfl) :
    DS X (.Expr (.Call (.Attribute (.Name x npos) "append" apos) [e] [] cpos) pos) (tDrop (tBM X.K "list" rAppend (tVar i) (tCons te tNil))) (sApp i f) [] := by
  refine ⟨ps_expr (pe_bm PySem.F.plainAttrs_list PySem.F.slot_list_append PySem.F.type_list_append mt_append (pe_var hN hv hd hcd) (pa_cons h.pe pa_nil hse) rfl hfew hline hse rfl) hs, ?_⟩
  intro G0 H0 H ts vs env σ fl env' S g D q
  unfold sApp at g
  split at g
  · rename_i us0 he
    obtain ⟨⟨t, e1⟩, g1, g2⟩ := obind g
    dsimp only at g2
    split at g2
    · rename_i us he1
      by_cases hl : us.length < 16000000
      · rw [if_pos hl] at g2
        cases g2
        obtain ⟨v, hv1, S1⟩ := S.look he
        obtain ⟨a0, xs0, ev, hq0, _⟩ : ∃ a xs, v = .ref a ∧ SqL X.K H a xs ∧ True := by
          obtain ⟨a, xs, k1, k2, _⟩ := S1.see (q := (T.lst us0, v)) (by simp)
          exact ⟨a, xs, k1, .inl k2, trivial⟩
        subst ev
        refine ⟨.ref a0, hv1, .inl ⟨rfl, _, hq0⟩, ?_⟩
        refine h.ok _ _ _ _ _ _ _ _ _ _ S g1 _ fun w H1 s1 S2 => ?_
        obtain ⟨v2, hv2, S3⟩ := S2.get he1
        rw [hv1] at hv2
        cases hv2
        obtain ⟨a, xs, k1, k2, k3, k4⟩ := OkS.wrL (es := [t]) (ws := [w]) S3 rfl
        cases k1
        refine ⟨a0, xs, w, rfl, rfl, k2, by rw [k3, sizeLine_eq]; omega, ?_⟩
        have S4 := k4 (us ++ [t]) (xs ++ [w]) fun G o1 o2 r1 r2 => ⟨o1 ++ o2, [], r1.append r2, by simp⟩
        have hlen : i < e1.length := (List.getElem?_eq_some_iff.mp he1).1
        have S5 := S4.put (i := i) (by simpa using hlen)
        rw [List.set_set, set_back hv1] at S5
        exact q _ _ S5 .rfl'
      · rw [if_neg hl] at g2; cases g2
    · cases g2
  · cases g
end
def asI : T → Option Int
  | .p (.int i) => some i
  | _ => none
theorem asI_eq {t : T} {i : Int} (h : asI t = some i) : t = .p (.int i) := by
  unfold asI at h
  split at h
  · cases h; rfl
  · cases h
def atL (env : Env) (i : Nat) : Option (List T) := match env[i]? with
  | some (some (.lst us)) => some us
  | _ => none
theorem atL_eq {env : Env} {i : Nat} {us : List T} (h : atL env i = some us) : env[i]? = some (some (.lst us)) := by
  unfold atL at h
  split at h
  · rename_i h'; cases h; exact h'
  · cases h
/-- x[j] = e, x a name -/
def sPut (i : Nat) (fj f : EF) : SF := fun env => (f env).bind fun r => (atL r.2 i).bind fun _ => (fj r.2).bind fun s => (asI s.1).bind fun j => (atL s.2 i).bind fun us =>
  (ixN us.length j).map fun k => (.nx, s.2.set i (some (.lst (us.set k r.1))))
/-- x[j] op= e of ints, x a name -/
def sAugIx (i : Nat) (h : Int → Int → Int) (fj f : EF) : SF := fun env => (atL env i).bind fun _ => (fj env).bind fun s => (asI s.1).bind fun j => if 0 ≤ j then (atL s.2 i).bind fun us => (atI us j).bind fun t => (asI t).bind fun x =>
  (f s.2).bind fun r => (asI r.1).bind fun y => (atL r.2 i).bind fun us2 => (ixN us2.length j).map fun k => (.nx, r.2.set i (some (.lst (us2.set k (.p (.int (h x y)))))))
  else none
end DL

set_option Elab.async false
set_option linter.all false
set_option maxRecDepth 100000
namespace DL
open PySem PySem.Spec PyProof.Rows L2

section
variable {X : Cx}
/-- a list's item, by values, at a place that isn't negative -/
def rGetL (K : PySem.W.Frag) : V → V → Hp → VK → Prop := fun o i H Q => ∃ p xs k v, o = .ref p ∧ i = .int k ∧ SqL K H p xs ∧ 0 ≤ k ∧ atI xs k = some v ∧ Q v H
theorem get_list : PGet X (rGetL X.K) := by
  intro pins s σ H o i ov iv Q I ro ri h
  obtain ⟨p, xs, k, z, rfl, rfl, hq, h0, he, q⟩ := h
  cases ro
  obtain ⟨t, rfl⟩ := ri
  obtain ⟨its, r, pl, hz⟩ := I.list hq
  obtain ⟨j, h1, h2, h3, h4, h5⟩ := atI_get he
  obtain ⟨w, ew, rw'⟩ := r.get h2
  have hl := r.length
  have hn := line63
  have hj : k.toNat = j := by
    rw [seqIndex_of h0 h5] at h1
    exact Option.some.inj h1
  exact wpAny_getItem_list pl.isList h0 (by omega) (by rw [hj]; simpa using ew) ⟨z, H, I, rw', q⟩
end
section
variable {X : Cx} {e j : Expr} {te tj : TE} {f fj : EF} {pos npos ipos : Pos}
theorem ds_put (i : Nat) {x : Str} (h : DT X e te f) (hj : DT X j tj fj) (hN : X.N[i]? = some x := by rfl) (hv : Vis X.env.scope x := by first | exact Or.inl rfl | exact Or.inr (Or.inl rfl) | exact Or.inr (Or.inr rfl)) (hd : (x == ("__debug__" : Str)) = false := by decide) (hcd : (x == ("__classdict__" : Str)) = false := by decide)
    (ha : ∀ v, assign (.Subscript (.Name x npos) j ipos) X.env v = (do
      let ov ← holding [v] (eval (.Name x npos) X.env)
      let iv ← holding [v, ov] (eval j X.env)
      standAt ipos
      holding [v, ov, iv] (setItem ov iv v)
      release [v, ov, iv] []) := by intro _; rfl) (hs : swapsWithSole [.Subscript (.Name x npos) j ipos] e pos.line X.env = pure false := by rfl) (hw : swappedStores [.Subscript (.Name x npos) j ipos] e X.env = pure none := by rfl)
    (h1 : (assignEach [.Subscript (.Name x npos) j ipos] X.env).map (·.2) = [assign (.Subscript (.Name x npos) j ipos) X.env] := by rfl) :
    DS X (.Assign [.Subscript (.Name x npos) j ipos] e pos) (tAsg te (gSub (tVar i) tj rSetL)) (sPut i fj f) [] := by
  refine ⟨ps_asg h.pe (pg_sub (pe_var hN hv hd hcd) hj.pe set_list ha) hs hw h1, ?_⟩
  intro G0 H0 H ts vs env σ fl env' S g D q
  obtain ⟨⟨t, e1⟩, g1, g2⟩ := obind g
  obtain ⟨us, g3, g4⟩ := obind g2
  have he1 := atL_eq g3
  obtain ⟨⟨y, e2⟩, g5, g6⟩ := obind g4
  obtain ⟨k, g7, g8⟩ := obind g6
  have ey : y = .p (.int k) := asI_eq g7
  subst ey
  obtain ⟨us', g9, g10⟩ := obind g8
  have he2 := atL_eq g9
  obtain ⟨m, g11, g12⟩ := omap g10
  cases g12
  refine h.ok _ _ _ _ _ _ _ _ _ _ S g1 _ fun w H1 s1 S1 => ?_
  obtain ⟨v, hv1, S2⟩ := S1.look he1
  refine ⟨v, hv1, ?_⟩
  refine hj.ok _ _ _ _ _ _ _ _ _ _ S2.unview g5 _ fun z H2 s2 S3 => ?_
  have ez : z = .int k := S3.top
  subst ez
  obtain ⟨v2, hv2, S4⟩ := S3.pop.get he2
  rw [hv1] at hv2
  cases hv2
  obtain ⟨a, xs, k1, k2, k3, k4⟩ := OkS.wrL (es := [t]) (ws := [w]) S4 rfl
  cases k1
  have g11 : ixN us'.length k = some m := g11
  refine ⟨a, xs, k, m, rfl, rfl, k2, by rw [k3]; exact g11, ?_⟩
  have hm : m < us'.length := (ixN_seq g11).2.1
  have S5 := k4 (us'.set m t) (xs.set m w) fun G o1 o2 r1 r2 => by
    obtain ⟨v', r', p1, p2, q1, q2, q3, q4⟩ := r2
    cases q1
    have q3 : _ ∧ p2 = [] := q3
    obtain ⟨o', r, f1, f2⟩ := r1.set (i := m) hm q2
    exact ⟨o', r, f1, by rw [q4, q3.2, List.append_nil]; exact f2⟩
  have hlen : i < e2.length := (List.getElem?_eq_some_iff.mp he2).1
  have S6 := S5.put (i := i) (by simpa using hlen)
  rw [List.set_set, set_back hv1] at S6
  exact q _ _ S6 .rfl'
/-- x op= e of scalars -/
def sAug (i : Nat) (g : D → D → Option D) (f : EF) : SF := fun env => match env[i]? with
  | some (some (.p a)) => (f env).bind fun r => match r.1 with
    | .p b => (g a b).bind fun d => if i < r.2.length then some (.nx, r.2.set i (some (.p d))) else none
    | _ => none
  | _ => none
theorem ds_aug {i : Nat} {x : Str} {op : Operator} {r : TIp} {g : D → D → Option D} (hN : X.N.Nodup) (hi : X.N[i]? = some x) (hx : Loc X.env.scope x) (he : DT X e te f) (ho : PIp X op r) (hr : Sc2 r g)
    (hf : X.fn x = true ∨ X.env.scope.names.lookup x = some .local := by first | exact .inl rfl | exact .inr rfl | assumption) : DS X (.AugAssign (.Name x npos) op e pos) (tAug i te r) (sAug i g f) [i] := by
  refine ⟨ps_aug hN hi hx he.pe ho hf, ?_⟩
  intro G0 H0 H ts vs env σ fl env' S k D q
  unfold sAug at k
  split at k
  · rename_i a ha
    obtain ⟨⟨t, e1⟩, g1, g2⟩ := obind k
    dsimp only at g2
    split at g2
    · rename_i b
      obtain ⟨d, g3, g4⟩ := obind g2
      by_cases hl : i < e1.length
      · rw [if_pos hl] at g4
        cases g4
        obtain ⟨v, hv, S1⟩ := S.look ha
        refine ⟨v, hv, ?_⟩
        have va := S1.see (q := (T.p a, v)) (by simp)
        refine he.ok _ _ _ _ _ _ _ _ _ _ S g1 _ fun w H1 s1 S2 => ?_
        exact hr a b d g3 X.K H1 v w _ (RpD.mono s1 _ va) S2.top fun u hu => q _ _ ((S2.pop.scal hu).put hl) .set
      · rw [if_neg hl] at g4; cases g4
    · cases g2
  · cases k
theorem sc_ipI {h : Int → Int → Int} : Sc2 (ipI h) (gI (fun _ _ => true) h) := by
  intro a b d hg K H v w Q hv hw q
  obtain ⟨i, j, rfl, rfl, h1, rfl⟩ := gI_some hg
  exact ⟨i, j, hv, hw, q _ fun _ => rfl⟩
/-- x[j] op= e of ints, j not negative -/
theorem ds_augIx (i : Nat) {x : Str} {op : Operator} {hh : Int → Int → Int} (ho : PIp X op (ipI hh)) (hj : DT X j tj fj) (h : DT X e te f) (hN : X.N[i]? = some x := by rfl) (hv : Vis X.env.scope x := by first | exact Or.inl rfl | exact Or.inr (Or.inl rfl) | exact Or.inr (Or.inr rfl)) (hd : (x == ("__debug__" : Str)) = false := by decide) (hcd : (x == ("__classdict__" : Str)) = false := by decide)
    (ha : ∀ ov iv new, augStore j ov iv new = (do holding [new, ov, iv] (setItem ov iv new); release [new, ov, iv] []; pure .next) := by intros; rfl) :
    DS X (.AugAssign (.Subscript (.Name x npos) j ipos) op e pos) (tAugS (tVar i) tj te (rGetL X.K) (ipI hh) rSetL) (sAugIx i hh fj f) [] := by
  refine ⟨ps_augS (pe_var hN hv hd hcd) hj.pe get_list h.pe ho set_list ha, ?_⟩
  intro G0 H0 H ts vs env σ fl env' S g D q
  obtain ⟨us0, g1, g2⟩ := obind g
  have he0 := atL_eq g1
  obtain ⟨⟨y, e1⟩, g3, g4⟩ := obind g2
  obtain ⟨k, g5, g6⟩ := obind g4
  have ey : y = .p (.int k) := asI_eq g5
  subst ey
  by_cases h0 : 0 ≤ k
  · rw [if_pos h0] at g6
    obtain ⟨us, g7, g8⟩ := obind g6
    have he1 := atL_eq g7
    obtain ⟨tx, g9, g10⟩ := obind g8
    obtain ⟨x0, g11, g12⟩ := obind g10
    have ex : tx = .p (.int x0) := asI_eq g11
    subst ex
    obtain ⟨⟨z, e2⟩, g13, g14⟩ := obind g12
    obtain ⟨y0, g15, g16⟩ := obind g14
    have ez : z = .p (.int y0) := asI_eq g15
    subst ez
    obtain ⟨us2, g17, g18⟩ := obind g16
    have he2 := atL_eq g17
    obtain ⟨m, g19, g20⟩ := omap g18
    cases g20
    obtain ⟨v, hv1, S1⟩ := S.look he0
    refine ⟨v, hv1, ?_⟩
    refine hj.ok _ _ _ _ _ _ _ _ _ _ S1.unview g3 _ fun z1 H1 s1 S2 => ?_
    have ez1 : z1 = .int k := S2.top
    subst ez1
    obtain ⟨v2, hv2, S3⟩ := S2.pop.look he1
    rw [hv1] at hv2
    cases hv2
    rcases S3.ix (i := k) (show ixT (.lst us) k = some (.p (.int x0)) from g9) with ⟨a, xs, v', q1, q2, qL, q3, S4⟩ | ⟨zz, c, q1, _⟩
    · subst q1
      have hq2 : SqL X.K H1 a xs := qL rfl
      have ev' : v' = .int x0 := S4.see (q := (T.p (.int x0), v')) (by simp)
      subst ev'
      refine ⟨a, xs, k, .int x0, rfl, rfl, hq2, h0, q3, ?_⟩
      refine h.ok _ _ _ _ _ _ _ _ _ _ S4.unview g13 _ fun w2 H2 s2 S5 => ?_
      have ew2 : w2 = .int y0 := S5.top
      refine ⟨x0, y0, rfl, ew2, ?_⟩
      obtain ⟨v3, hv3, S6⟩ := S5.pop.get he2
      rw [hv1] at hv3
      cases hv3
      obtain ⟨a', xs', k1, k2, k3, k4⟩ := OkS.wrL (es := []) (ws := []) S6 rfl
      cases k1
      have g19 : ixN us2.length k = some m := g19
      have hm : m < us2.length := (ixN_seq g19).2.1
      refine ⟨a, xs', k, m, rfl, rfl, k2, by rw [k3]; exact g19, ?_⟩
      have S7 := k4 (us2.set m (.p (.int (hh x0 y0)))) (xs'.set m (.int (hh x0 y0))) fun G o1 o2 r1 r2 => by
        obtain ⟨o', r, f1, f2⟩ := r1.set (i := m) hm (show Rp X.K G H2 (.p (.int (hh x0 y0))) (.int (hh x0 y0)) [] from ⟨rfl, rfl⟩)
        have e2 : o2 = [] := r2.2
        exact ⟨o', r, f1, by rw [e2]; exact f2⟩
      have hlen : i < e2.length := (List.getElem?_eq_some_iff.mp he2).1
      have S8 := S7.put (i := i) (by simpa using hlen)
      rw [List.set_set, set_back hv1] at S8
      exact q _ _ S8 .rfl'
    · obtain ⟨a', xs', k1, k2, _⟩ := S3.see (q := (T.lst us, v)) (by simp)
      rw [q1] at k1; cases k1
  · rw [if_neg h0] at g6; cases g6
end
end DL

set_option Elab.async false
set_option linter.all false
set_option maxRecDepth 100000
namespace DL
open PySem PySem.Spec PyProof.Rows L2

/-! ### comprehensions -/
def wipeE (env : Env) : List Nat → Env
  | [] => env
  | v :: vs => (wipeE env vs).set v none
theorem wipeE_some {env : Env} {j : Nat} {t : T} : ∀ {vs : List Nat}, (wipeE env vs)[j]? = some (some t) → j ∉ vs ∧ env[j]? = some (some t)
  | [], h => ⟨by simp, h⟩
  | v :: vs, h => by
    unfold wipeE at h
    by_cases hj : v = j
    · subst hj
      by_cases hl : v < (wipeE env vs).length
      · rw [List.getElem?_set_self hl] at h; cases h
      · rw [List.getElem?_eq_none (by simpa using hl)] at h; cases h
    · rw [List.getElem?_set_ne hj] at h
      obtain ⟨h1, h2⟩ := wipeE_some h
      exact ⟨by simp [h1, Ne.symm hj], h2⟩
section
variable {K : PySem.W.Frag} {G0 H0 H G H' : Hp} {W : List (T × V)} {ts : List T} {vs : List V} {env : Env} {σ σ' : St} {t : T} {v : V}
theorem RpE.slots : ∀ {es : Env} {σ σ' : St} {o : List Addr}, RpE K G H es σ o → σ'.length = σ.length → (∀ (j : Nat) (t : T), es[j]? = some (some t) → σ'[j]? = σ[j]?) → RpE K G H es σ' o
  | [], σ, σ', o, ⟨h, h2⟩, hl, _ => by
    subst h
    cases σ' with
    | nil => exact ⟨rfl, h2⟩
    | cons _ _ => simp at hl
  | none :: es, _, σ', o, ⟨x, r, h1, h2⟩, hl, hk => by
    subst h1
    cases σ' with
    | nil => simp at hl
    | cons y σ' => exact ⟨y, σ', rfl, RpE.slots h2 (by simpa using hl) fun j t e => by simpa using hk (j + 1) t (by simpa using e)⟩
  | some u :: es, _, σ', o, ⟨x, r, o1, o2, h1, h2, h3, h4⟩, hl, hk => by
    subst h1
    cases σ' with
    | nil => simp at hl
    | cons y σ' =>
      have e : y = some x := by simpa using hk 0 u rfl
      subst e
      exact ⟨x, σ', o1, o2, rfl, h2, RpE.slots h3 (by simpa using hl) (fun j t e => by simpa using hk (j + 1) t (by simpa using e)), h4⟩
theorem OkS.slots (S : OkS K G0 H0 W H ts vs env σ) (hl : σ'.length = σ.length) (hk : ∀ (j : Nat) (t : T), env[j]? = some (some t) → σ'[j]? = σ[j]?) : OkS K G0 H0 W H ts vs env σ' := by
  obtain ⟨G, ot, oe, s⟩ := S
  exact ⟨G, ot, oe, s.tmp, s.env.slots hl hk, s.nd, s.fr, s.g0, s.gh, s.h0, s.nw, s.vw⟩
theorem OkS.forget1 (S : OkS K G0 H0 W H ts vs env σ) (i : Nat) : OkS K G0 H0 W H ts vs (env.set i none) σ := by
  obtain ⟨G, ot, oe, s⟩ := S
  obtain ⟨o1, o2, h, pm⟩ := s.env.drop i
  have pm2 : (ot ++ oe).Perm (o1 ++ (ot ++ o2)) := (List.Perm.append_left ot pm).trans (perm_mid _ _ _)
  exact ⟨G, ot, o2, s.tmp, h, (List.nodup_append.mp (pm2.nodup_iff.mp s.nd)).2.1, fun a ha => s.fr a (pm2.mem_iff.mpr (List.mem_append_right _ ha)), s.g0, s.gh, s.h0, s.nw, s.vw⟩
theorem OkS.forget (S : OkS K G0 H0 W H ts vs env σ) : ∀ l : List Nat, OkS K G0 H0 W H ts vs (wipeE env l) σ
  | [] => S
  | i :: l => (OkS.forget S l).forget1 i
theorem wipe_out' {σ : St} {j : Nat} : ∀ {l : List Nat}, j ∉ l → (wipe σ l)[j]? = σ[j]?
  | [], _ => rfl
  | v :: l, h => by
    simp only [List.mem_cons, not_or] at h
    unfold wipe
    rw [List.getElem?_set_ne (Ne.symm h.1)]
    exact wipe_out' h.2
theorem wipe_in {σ : St} {j : Nat} : ∀ {l : List Nat}, j ∈ l → j < σ.length → (wipe σ l)[j]? = some none
  | [], h, _ => by cases h
  | v :: l, h, hl => by
    unfold wipe
    by_cases e : v = j
    · subst e
      rw [List.getElem?_set_self (by rw [wipe_length]; exact hl)]
    · rw [List.getElem?_set_ne e]
      rcases List.mem_cons.mp h with z | z
      · exact absurd z.symm e
      · exact wipe_in z hl
theorem wipe_eq {σ σ' : St} {l : List Nat} (hl : σ'.length = σ.length) (h : ∀ j, j ∉ l → σ'[j]? = σ[j]?) : wipe σ' l = wipe σ l := by
  apply List.ext_getElem?
  intro j
  by_cases hj : j ∈ l
  · by_cases hlt : j < σ.length
    · rw [wipe_in hj hlt, wipe_in hj (by omega)]
    · rw [List.getElem?_eq_none (by rw [wipe_length]; omega), List.getElem?_eq_none (by rw [wipe_length]; omega)]
  · rw [wipe_out' hj, wipe_out' hj]; exact h j hj
theorem OkS.toWipe (S : OkS K G0 H0 W H ts vs env σ) (l : List Nat) : OkS K G0 H0 W H ts vs (wipeE env l) (wipe σ l) :=
  (S.forget l).slots (wipe_length _ _) fun j t e => wipe_out' (wipeE_some e).1
theorem OkS.fixV (S : OkS K G0 H0 W H ts vs env σ) : ∃ G1, Gst G0 H0 G1 ∧ (∀ q ∈ W, ∃ o, Rp K G1 H q.1 q.2 o) ∧ OkS K G1 H0 [] H ts vs env σ := by
  obtain ⟨G, ot, oe, s⟩ := S
  refine ⟨G, ⟨s.g0, s.nw⟩, s.vw, G, ot, oe, s.tmp, s.env, s.nd, s.fr, Same.refl _, s.gh, s.h0, fun a o e => .inl (by rw [e]; simp), fun q hq => by cases hq⟩
theorem OkS.reV {G1 : Hp} (S : OkS K G1 H0 [] H' ts vs env σ) (h : ∀ q ∈ W, ∃ o, Rp K G1 H q.1 q.2 o) (s1 : Same H H') : OkS K G1 H0 W H' ts vs env σ := by
  obtain ⟨G, ot, oe, s⟩ := S
  refine ⟨G, ot, oe, s.tmp, s.env, s.nd, s.fr, s.g0, s.gh, s.h0, s.nw, fun q hq => ?_⟩
  obtain ⟨o, r⟩ := h q hq
  refine ⟨o, r.mono s.g0 _ fun a ha => ?_⟩
  obtain ⟨u, e, _⟩ := r.there _ a ha
  rw [e, s1 a u e]
end
theorem ItOk.mono {K : PySem.W.Frag} {G1 G2 : Hp} {J : It} {ds : List D} (I : ItOk K G1 J ds) (s : Same G1 G2) : ItOk K G2 J ds where
  go := fun i H h hi => I.go i H (s.trans h) hi
  stop := fun H h => I.stop H (s.trans h)
  yld := fun i H x H' d h hd y => by
    rcases I.yld i H x H' d (s.trans h) hd y with ⟨e, r⟩ | ⟨p, xs, es, h1, h2, h3, h4, h5⟩
    · exact .inl ⟨e, RpD.mono s _ r⟩
    · exact .inr ⟨p, xs, es, h1, h2, h3, h4, RpDs.mono s _ h5⟩
def compD (own : List Nat) (G : GF) (test : CF) (elt : EF) : List D → Env → Option (List T × Env)
  | [], env => some ([], env)
  | d :: ds, env => (G (.p d) env).bind fun e1 => (test e1).bind fun r => if r.1 then (elt r.2).bind fun s => (compD own G test elt ds (wipeE s.2 own)).map fun z => (s.1 :: z.1, z.2)
    else compD own G test elt ds (wipeE r.2 own)
def eComp (own : List Nat) (f : IF) (G : GF) (test : CF) (elt : EF) : EF := fun env => (f env).bind fun r => if r.1.length ≤ 1000000 then (compD own G test elt r.1 (wipeE r.2 own)).map fun z => (.lst z.1, z.2) else none
theorem ev_comp {K : PySem.W.Frag} {wi : TI} {fi : IF} {g : TG} {G : GF} {sl own : List Nat} {tt : TT} {ct : CF} {te : TE} {fe : EF} (hI : EvI K wi fi) (hg : EvG K g G sl) (hsl : ∀ j ∈ sl, j ∈ own) (ht : EvC K tt ct) (he : EvT K te fe) : EvT K (tLc wi g tt te own) (eComp own fi G ct fe) := by
  intro G0 H0 W H ts vs env σ t env' S e Q q
  obtain ⟨⟨ds, e1⟩, g1, g2⟩ := obind e
  by_cases hlen : ds.length ≤ 1000000
  · rw [if_pos hlen] at g2
    obtain ⟨⟨us, e2⟩, g3, g4⟩ := omap g2
    cases g4
    refine hI _ _ _ _ _ _ _ _ _ _ S g1 _ fun J H1 G1 s1 gst I S1 => ?_
    obtain ⟨G2, gst2, hv, S2⟩ := S1.fixV
    have I2 := I.mono gst2.s
    intro D hD
    have S3 : OkS K G2 H0 [] (upd H1 D (.lst [])) (.lst [] :: ts) (.ref D :: vs) (wipeE e1 own) (wipe σ own) := (OkS.newL (us := []) (ws := []) rfl S2 hD).toWipe own
    refine ⟨fun i m H => m = ds.length - i ∧ i ≤ ds.length ∧ Same H1 H ∧ ∃ env acc rest, OkS K G2 H0 [] H (.lst acc :: ts) (.ref D :: vs) env (wipe σ own) ∧ compD own G ct fe (ds.drop i) env = some (rest, e2) ∧ us = acc ++ rest ∧ acc.length ≤ i ∧ (∀ (j : Nat) (t : T), env[j]? = some (some t) → j ∉ own),
      ⟨ds.length, by simp, Nat.zero_le _, same_upd hD, wipeE e1 own, [], us, S3, by simpa using g3, rfl, Nat.le_refl _, fun j t e => (wipeE_some e).1⟩, ?_⟩
    rintro i m Hi ⟨rfl, hle, sm, envi, acc, rest, Si, hc, hu, ha, hw0⟩
    by_cases hlt : i < ds.length
    · refine .inr ⟨I2.go i Hi Si.same hlt, fun H' => i + 1 ≤ ds.length ∧ Same H1 H' ∧ ∃ env acc rest, OkS K G2 H0 [] H' (.lst acc :: ts) (.ref D :: vs) env (wipe σ own) ∧ compD own G ct fe (ds.drop (i + 1)) env = some (rest, e2) ∧ us = acc ++ rest ∧ acc.length ≤ i + 1 ∧ (∀ (j : Nat) (t : T), env[j]? = some (some t) → j ∉ own), fun H' ⟨h1, h2⟩ => ⟨ds.length - (i + 1), by omega, rfl, h1, h2⟩, fun x H3 y => ?_⟩
      obtain ⟨s3, S4⟩ := I2.item Si (List.getElem?_eq_getElem hlt) y
      rw [List.drop_eq_getElem_cons hlt] at hc
      obtain ⟨e3, l1, l2⟩ := obind hc
      obtain ⟨⟨b, e4⟩, l3, l4⟩ := obind l2
      refine hg _ _ _ _ _ _ _ _ _ _ _ S4 l1 _ fun σ2 S5 dif => ?_
      have hw : wipe σ2 own = wipe σ own := by
        refine wipe_eq (dif.1.trans (wipe_length _ _)) fun j hj => (dif.2 j fun z => hj (hsl j z)).trans (wipe_out' hj)
      have again : ∀ {H4 : Hp} {e5 : Env} {acc' : List T}, OkS K G2 H0 [] H4 (.lst acc' :: ts) (.ref D :: vs) e5 σ2 → OkS K G2 H0 [] H4 (.lst acc' :: ts) (.ref D :: vs) (wipeE e5 own) (wipe σ own) := fun S => by
        rw [← hw]; exact S.toWipe own
      refine ⟨hw, ?_⟩
      refine ht _ _ _ _ _ _ _ _ _ _ S5 l3 _ fun H4 s4 S6 => ?_
      cases b with
      | false =>
        rw [if_neg Bool.false_ne_true]
        exact ⟨hlt, (sm.trans s3).trans s4, _, acc, rest, again S6, l4, hu, by omega, fun j t e => (wipeE_some e).1⟩
      | true =>
        rw [if_pos rfl]
        obtain ⟨⟨u, e5⟩, l5, l6⟩ := obind (show (fe e4).bind (fun s => (compD own G ct fe (ds.drop (i + 1)) (wipeE s.2 own)).map fun z => (s.1 :: z.1, z.2)) = some (rest, e2) from l4)
        obtain ⟨⟨zs, e6⟩, l7, l8⟩ := omap l6
        cases l8
        refine he _ _ _ _ _ _ _ _ _ _ S6 l5 _ fun y H5 s5 S7 => ?_
        have S8 : OkS K G2 H0 [] H5 (.lst acc :: ([u] ++ ts)) (.ref D :: ([y] ++ vs)) e5 σ2 := OkS.mid (us := [u]) (ws := [y]) rfl S7 |> fun S => by
          have := OkS.mid (us := [u]) (ws := [y]) (x := .lst acc) (y := .ref D) rfl S7
          exact this
        obtain ⟨a, xs, k1, k2, k3, k4⟩ := OkS.wrL (es := [u]) (ws := [y]) S8 rfl
        cases k1
        refine ⟨xs, k2, by rw [k3, sizeLine_eq]; omega, hlt, ?_, _, acc ++ [u], zs, again (k4 (acc ++ [u]) (xs ++ [y]) fun G o1 o2 r1 r2 => ⟨o1 ++ o2, [], r1.append r2, by simp⟩), l7, by rw [hu]; simp, by simp; omega, fun j t e => (wipeE_some e).1⟩
        intro b ob eb
        have : b ≠ D := fun z => by rw [z, hD] at eb; cases eb
        rw [upd_ne this]
        exact s5 b ob (s4 b ob (s3 b ob (sm b ob eb)))
    · have hi' : i = ds.length := by omega
      subst hi'
      rw [List.drop_length] at hc
      cases hc
      rw [List.append_nil] at hu
      subst hu
      have Sf : OkS K G2 H0 W Hi (.lst us :: ts) (.ref D :: vs) e2 σ := (Si.slots (by rw [wipe_length]) fun j t e => (wipe_out' (hw0 j t e)).symm).reV hv sm
      exact .inl ⟨I2.stop Hi Si.same, q _ Hi (s1.trans sm) ((Sf.back gst2).back gst)⟩
  · rw [if_neg hlen] at g2; cases g2
end DL

set_option Elab.async false
set_option linter.all false
set_option maxRecDepth 100000
namespace DL
open PySem PySem.Spec PyProof.Rows L2
structure DTs (X : Cx) (es : List Expr) (t : TT) (c : CF) : Prop where
  pt : PTs X es t
  ok : EvC X.K t c
def cYes : CF := fun env => some (true, env)
theorem dts_nil {X : Cx} : DTs X [] tYes cYes := ⟨pts_nil, fun _ _ _ H _ _ _ _ _ _ S e Q q => by cases e; exact q H (Same.refl _) S⟩
theorem dts_one {X : Cx} {e : Expr} {t : TT} {c : CF} (h : DC X e t c) : DTs X [e] t c := ⟨pts_one h.pt, h.ok⟩
/-- what a function's own reading asks, whatever the term was -/
def teW (K : PySem.W.Frag) (f : EF) : TE := fun σ H Q => ∃ (G0 H0 : Hp) (W : List (T × V)) (ts : List T) (vs : List V) (env : Env) (t : T) (env' : Env), OkS K G0 H0 W H ts vs env σ ∧ f env = some (t, env') ∧ ∀ v H', Same H H' → OkS K G0 H0 W H' (t :: ts) (v :: vs) env' σ → Q v H'
def ttW (K : PySem.W.Frag) (f : CF) : TT := fun σ H Q => ∃ (G0 H0 : Hp) (W : List (T × V)) (ts : List T) (vs : List V) (env : Env) (c : Bool) (env' : Env), OkS K G0 H0 W H ts vs env σ ∧ f env = some (c, env') ∧ ∀ H', Same H H' → OkS K G0 H0 W H' ts vs env' σ → Q c H'
theorem ev_teW {K : PySem.W.Frag} {f : EF} : EvT K (teW K f) f := fun G0 H0 W H ts vs env σ t env' S e Q q => ⟨G0, H0, W, ts, vs, env, t, env', S, e, q⟩
theorem ev_ttW {K : PySem.W.Frag} {f : CF} : EvC K (ttW K f) f := fun G0 H0 W H ts vs env σ t env' S e Q q => ⟨G0, H0, W, ts, vs, env, t, env', S, e, q⟩
theorem pe_W {X : Cx} {e : Expr} {te : TE} {f : EF} (h : DT X e te f) : PE X e (teW X.K f) := ⟨fun pins s σ H Q I ⟨_, _, _, _, _, _, _, _, S, g, q⟩ => h.pe.run pins s σ H Q I (h.ok _ _ _ _ _ _ _ _ _ _ S g Q q)⟩
theorem pts_W {X : Cx} {e : List Expr} {te : TT} {f : CF} (h : DTs X e te f) : PTs X e (ttW X.K f) := ⟨fun pins s σ H Q I ⟨_, _, _, _, _, _, _, _, S, g, q⟩ => h.pt.run pins s σ H Q I (h.ok _ _ _ _ _ _ _ _ _ _ S g Q q)⟩
def tgW (K : PySem.W.Frag) (G : GF) (sl : List Nat) : TG := fun x σ H Q => ∃ (G0 H0 : Hp) (W : List (T × V)) (ts : List T) (vs : List V) (env : Env) (d : T) (env' : Env), OkS K G0 H0 W H (d :: ts) (x :: vs) env σ ∧ G d env = some env' ∧ ∀ σ', OkS K G0 H0 W H ts vs env' σ' → Dif sl σ σ' → Q σ' H
theorem ev_tgW {K : PySem.W.Frag} {G : GF} {sl : List Nat} : EvG K (tgW K G sl) G sl := fun G0 H0 W H ts vs env σ d x env' S e Q q => ⟨G0, H0, W, ts, vs, env, d, env', S, e, q⟩
theorem pg_W {X : Cx} {e : Expr} {g : TG} {G : GF} {sl : List Nat} (h : DG X e g G sl) : PG X e (tgW X.K G sl) := ⟨fun pins s σ H v u Q I r ⟨_, _, _, _, _, _, _, _, S, g, q⟩ => h.pg.run pins s σ H v u Q I r (h.ok _ _ _ _ _ _ _ _ _ _ _ S g Q q)⟩
section
variable {X : Cx} {elt tg iter : Expr} {ifs : List Expr} {scope : Scope} {own : List (Str × Nat)} {pos spos py : Pos} {wi : TI} {fi : IF} {g : Shared → Hp → Addr → List (Str × Addr) → List Addr → TG} {G : GF} {sl : List Nat} {tt : Shared → Hp → Addr → List (Str × Addr) → List Addr → TT} {ct : CF} {te : Shared → Hp → Addr → List (Str × Addr) → List Addr → TE} {fe : EF} {i : Nat} {y : Str}
theorem dt_comp (hc : X.calm = true) (hN : X.N.Nodup) (hi : DI X tg iter wi fi) (ok : BlkOk X.N X.env.scope scope own)
    (hg : ∀ (s : Shared) (H : Hp) (C : Addr) (cl : List (Str × Addr)) (fp : List Addr), DG (X.blk s H scope (compEnvC scope cl C X.env) fp) tg (g s H C cl fp) G sl) (ht : ∀ (s : Shared) (H : Hp) (C : Addr) (cl : List (Str × Addr)) (fp : List Addr), DTs (X.blk s H scope (compEnvC scope cl C X.env) fp) ifs (tt s H C cl fp) ct)
    (he : ∀ (s : Shared) (H : Hp) (C : Addr) (cl : List (Str × Addr)) (fp : List Addr), DT (X.blk s H scope (compEnvC scope cl C X.env) fp) elt (te s H C cl fp) fe) (hsl : ∀ j ∈ sl, j ∈ own.map (·.2) := by decide) (hs : ∀ x, foldedSetIterable iter X.env x = pure x := by intro _; rfl) :
    DT X (.ListComp elt [⟨tg, iter, ifs, 0⟩] scope pos) (tLc wi (tgW X.K G sl) (ttW X.K ct) (teW X.K fe) (own.map (·.2))) (eComp (own.map (·.2)) fi G ct fe) :=
  ⟨pe_lc hc hN hi.pi ok (fun s H C cl fp => pg_W (hg s H C cl fp)) (fun s H C cl fp => pts_W (ht s H C cl fp)) (fun s H C cl fp => pe_W (he s H C cl fp)) hs,
    ev_comp hi.ok ev_tgW hsl ev_ttW ev_teW⟩
theorem ds_setLc (hc : X.calm = true) (hN : X.N.Nodup) (hy : X.N[i]? = some y) (hyl : X.env.scope.names.lookup y = some .local)
    (hsw : swapsWith (.ListComp elt [⟨tg, iter, ifs, 0⟩] scope pos) (some (.Name y py)) spos.line X.env = pure true) (hi : DI X tg iter wi fi) (ok : BlkOk X.N X.env.scope scope own)
    (hg : ∀ (s : Shared) (H : Hp) (C : Addr) (cl : List (Str × Addr)) (fp : List Addr), DG (X.blk s H scope (compEnvC scope cl C X.env) fp) tg (g s H C cl fp) G sl) (ht : ∀ (s : Shared) (H : Hp) (C : Addr) (cl : List (Str × Addr)) (fp : List Addr), DTs (X.blk s H scope (compEnvC scope cl C X.env) fp) ifs (tt s H C cl fp) ct)
    (he : ∀ (s : Shared) (H : Hp) (C : Addr) (cl : List (Str × Addr)) (fp : List Addr), DT (X.blk s H scope (compEnvC scope cl C X.env) fp) elt (te s H C cl fp) fe) (hsl : ∀ j ∈ sl, j ∈ own.map (·.2) := by decide) (hs : ∀ x, foldedSetIterable iter X.env x = pure x := by intro _; rfl) :
    DS X (.Assign [.Name y py] (.ListComp elt [⟨tg, iter, ifs, 0⟩] scope pos) spos) (tAsg (tLc wi (tgW X.K G sl) (ttW X.K ct) (teW X.K fe) (own.map (·.2))) (gName i)) (sSet i (eComp (own.map (·.2)) fi G ct fe)) [i] :=
  ⟨ps_setLc hc hN hy hyl hsw hi.pi ok (fun s H C cl fp => pg_W (hg s H C cl fp)) (fun s H C cl fp => pts_W (ht s H C cl fp)) (fun s H C cl fp => pe_W (he s H C cl fp)) hs,
    evs_set (ev_comp hi.ok ev_tgW hsl ev_ttW ev_teW)⟩
end
/-! ### enumerate, zip, a text's signs -/
def enumD : Nat → List D → List D
  | _, [] => []
  | i, d :: ds => .tup [.int (i : Int), d] :: enumD (i + 1) ds
theorem enumD_len : ∀ (i : Nat) (ds : List D), (enumD i ds).length = ds.length
  | _, [] => rfl
  | i, d :: ds => by rw [enumD, List.length_cons, enumD_len, List.length_cons]
theorem enumD_get : ∀ (ds : List D) (k i : Nat) (d : D), (enumD k ds)[i]? = some d → ∃ x, ds[i]? = some x ∧ d = .tup [.int ((k + i : Nat) : Int), x]
  | [], _, _, _, h => by simp [enumD] at h
  | x :: ds, k, 0, d, h => by
    simp [enumD] at h
    exact ⟨x, rfl, h.symm⟩
  | x :: ds, k, i + 1, d, h => by
    obtain ⟨y, h1, h2⟩ := enumD_get ds (k + 1) i d (by simpa [enumD] using h)
    exact ⟨y, by simpa using h1, by rw [h2]; congr 4; omega⟩
def zipD : List D → List D → List D
  | d :: ds, e :: es => .tup [d, e] :: zipD ds es
  | _, _ => []
theorem zipD_len : ∀ (ds es : List D), (zipD ds es).length = min ds.length es.length
  | [], es => by simp [zipD]
  | d :: ds, [] => by simp [zipD]
  | d :: ds, e :: es => by rw [zipD, List.length_cons, zipD_len, List.length_cons, List.length_cons]; omega
theorem zipD_get : ∀ (ds es : List D) (i : Nat) (d : D), (zipD ds es)[i]? = some d → ∃ x y, ds[i]? = some x ∧ es[i]? = some y ∧ d = .tup [x, y]
  | [], es, i, d, h => by simp [zipD] at h
  | x :: ds, [], i, d, h => by simp [zipD] at h
  | x :: ds, y :: es, 0, d, h => by
    simp [zipD] at h
    exact ⟨x, y, rfl, rfl, h.symm⟩
  | x :: ds, y :: es, i + 1, d, h => by
    obtain ⟨a, b, h1, h2, h3⟩ := zipD_get ds es i d (by simpa [zipD] using h)
    exact ⟨a, b, by simpa using h1, by simpa using h2, h3⟩
def signsD (s : Str) : List D := s.cps.toList.map fun c => .str ⟨#[c]⟩
section
variable {K : PySem.W.Frag} {G1 : Hp} {a b : Addr} {ds es : List D} {xs ys : List V}
theorem itOk_e (h : SqL K G1 a xs) (hr : RpDs K G1 ds xs) : ItOk K G1 (Ite K a) (enumD 0 ds) where
  go := fun i H s hi => by
    rw [enumD_len] at hi
    exact ⟨xs, xs[i]'(by rw [hr.len]; exact hi), s.seq h, List.getElem?_eq_getElem _⟩
  stop := fun H s => ⟨xs, s.seq h, by rw [hr.len, enumD_len]; exact Nat.le_refl _⟩
  yld := fun i H x H' d s hd y => by
    obtain ⟨p, z, e1, e2, e3, e4⟩ := y
    obtain ⟨w, h1, h2⟩ := enumD_get _ _ _ _ hd
    obtain ⟨v, h3, h4⟩ := hr.get h1
    have := e4 xs (s.seq h)
    rw [h3] at this
    cases this
    refine .inr ⟨p, _, _, e2, e3, e1, h2, ?_⟩
    exact ⟨_, _, rfl, by rw [Nat.zero_add]; exact rfl, z, [], rfl, h4, rfl⟩
theorem itOk_z (h : SqL K G1 a xs) (h' : SqL K G1 b ys) (hr : RpDs K G1 ds xs) (hr' : RpDs K G1 es ys) : ItOk K G1 (Itz K a b) (zipD ds es) where
  go := fun i H s hi => by
    rw [zipD_len] at hi
    exact ⟨xs, ys, xs[i]'(by rw [hr.len]; omega), ys[i]'(by rw [hr'.len]; omega), s.seq h, s.seq h', List.getElem?_eq_getElem _, List.getElem?_eq_getElem _⟩
  stop := fun H s => ⟨xs, ys, s.seq h, s.seq h', by rw [hr.len, hr'.len, zipD_len]; omega⟩
  yld := fun i H x H' d s hd y => by
    obtain ⟨p, z, w, e1, e2, e3, e4, e5⟩ := y
    obtain ⟨u, v, h1, h2, h3⟩ := zipD_get _ _ _ _ hd
    obtain ⟨z', h4, h5⟩ := hr.get h1
    obtain ⟨w', h6, h7⟩ := hr'.get h2
    have q1 := e4 xs (s.seq h)
    have q2 := e5 ys (s.seq h')
    rw [h4] at q1
    rw [h6] at q2
    cases q1
    cases q2
    exact .inr ⟨p, _, _, e2, e3, e1, h3, z, _, rfl, h5, w, [], rfl, h7, rfl⟩
theorem itOk_zt (h : SqT K G1 a xs) (h' : SqT K G1 b ys) (hr : RpDs K G1 ds xs) (hr' : RpDs K G1 es ys) : ItOk K G1 (RZ.ItzT K a b) (zipD ds es) where
  go := fun i H s hi => by
    rw [zipD_len] at hi
    exact ⟨xs, ys, xs[i]'(by rw [hr.len]; omega), ys[i]'(by rw [hr'.len]; omega), Same.sqT s h, Same.sqT s h', List.getElem?_eq_getElem _, List.getElem?_eq_getElem _⟩
  stop := fun H s => ⟨xs, ys, Same.sqT s h, Same.sqT s h', by rw [hr.len, hr'.len, zipD_len]; omega⟩
  yld := fun i H x H' d s hd y => by
    obtain ⟨p, z, w, e1, e2, e3, e4, e5⟩ := y
    obtain ⟨u, v, h1, h2, h3⟩ := zipD_get _ _ _ _ hd
    obtain ⟨z', h4, h5⟩ := hr.get h1
    obtain ⟨w', h6, h7⟩ := hr'.get h2
    have q1 := e4 xs (Same.sqT s h)
    have q2 := e5 ys (Same.sqT s h')
    rw [h4] at q1
    rw [h6] at q2
    cases q1
    cases q2
    exact .inr ⟨p, _, _, e2, e3, e1, h3, z, _, rfl, h5, w, [], rfl, h7, rfl⟩
theorem itOk_s {z : Str} : ItOk K G1 (Its z) (signsD z) where
  go := fun i H s hi => by show i < z.cps.size; simpa [signsD] using hi
  stop := fun H s => by show z.cps.size ≤ _; simp [signsD]
  yld := fun i H x H' d s hd y => by
    obtain ⟨e, c, h1, h2⟩ := y
    refine .inl ⟨e, ?_⟩
    simp only [signsD, List.getElem?_map, Array.getElem?_toList, h1, Option.map_some, Option.some.injEq] at hd
    subst hd
    exact h2
end
def iEn (f : AF) : IF := fun env => (f env).bind fun r => match r.1 with
  | [.p (.lst ds)] => some (enumD 0 ds, r.2)
  | _ => none
def iZp (f : AF) : IF := fun env => (f env).bind fun r => match r.1 with
  | [.p (.lst ds), .p (.lst es)] => some (zipD ds es, r.2)
  | [.p (.tup ds), .p (.tup es)] => some (zipD ds es, r.2)
  | _ => none
def iSg (f : EF) : IF := fun env => (f env).bind fun r => match r.1 with
  | .p (.str z) => some (signsD z, r.2)
  | _ => none
section
variable {X : Cx} {tg e e2 : Expr} {te : TE} {ta : TA} {f : EF} {fa : AF} {p pos tpos : Pos} {elts : List Expr} {kk : Nat}
theorem di_enum (hg : Gl X "enumerate") (hm : X.mg "enumerate" = none) (h : DA X [e] ta fa) (hs : starEach [e] X.env = [(false, eval e X.env)] := by rfl) :
    DI X (.Tuple elts kk tpos) (.Call (.Name "enumerate" p) [e] [] pos) (iEnum X.K ta) (iEn fa) := by
  refine ⟨pi_enum hg hm h.pa hs, ?_⟩
  intro G0 H0 W H ts vs env σ ds env' S g R r
  obtain ⟨⟨us, e1⟩, g1, g2⟩ := obind g
  refine h.ok _ _ _ _ _ _ _ _ _ _ S g1 _ fun ws H1 s1 hl S1 => ?_
  dsimp only at g2
  split at g2
  · rename_i es
    cases g2
    match ws, hl with
    | [w1], _ =>
      obtain ⟨G1, gst, sG, ⟨a, xs, q1, q2, q3⟩, S2⟩ := OkS.fixTop (show OkS X.K G0 H0 W H1 (.p (.lst es) :: ts) (w1 :: vs) _ σ from S1)
      exact ⟨a, xs, by rw [q1], sG.seq (.inl q2), r _ _ G1 s1 gst (itOk_e (.inl q2) q3) S2⟩
  · cases g2
theorem di_zip (hg : Gl X "zip") (hm : X.mg "zip" = none) (h : DA X [e, e2] ta fa) (hs : starEach [e, e2] X.env = (false, eval e X.env) :: starEach [e2] X.env := by rfl) (hpl : (backTo pos (starEach [e2] X.env)).any (·.1) = false := by rfl) :
    DI X (.Tuple elts kk tpos) (.Call (.Name "zip" p) [e, e2] [] pos) (RZ.iZipA X.K ta) (iZp fa) := by
  refine ⟨RZ.pi_zipA hg hm h.pa hs hpl, ?_⟩
  intro G0 H0 W H ts vs env σ ds env' S g R r
  obtain ⟨⟨us, e1⟩, g1, g2⟩ := obind g
  refine h.ok _ _ _ _ _ _ _ _ _ _ S g1 _ fun ws H1 s1 hl S1 => ?_
  dsimp only at g2
  split at g2
  · rename_i d1 d2
    cases g2
    match ws, hl with
    | [w1, w2], _ =>
      obtain ⟨G1, gst, sG, ⟨a, xs, q1, q2, q3⟩, S2⟩ := OkS.fixTop (show OkS X.K G0 H0 W H1 (.p (.lst d1) :: (.p (.lst d2) :: ts)) (w1 :: (w2 :: vs)) _ σ from S1)
      obtain ⟨G2, gst2, sG2, ⟨b, ys, r1, r2, r3⟩, S3⟩ := OkS.fixTop S2
      refine ⟨a, b, xs, ys, by rw [q1, r1], .inl ⟨sG.seq (.inl q2), sG2.seq (.inl r2), r _ _ G2 s1 ⟨gst.s.trans gst2.s, fun a o e => ?_⟩ (itOk_z (gst2.s.seq (.inl q2)) (.inl r2) (RpDs.mono gst2.s _ q3) r3) S3⟩⟩
      rcases gst2.nw a o e with h | h | h
      · cases q : G1 a with
        | none => exact absurd q h
        | some u =>
          have := gst2.s a u q
          rw [e] at this; cases this
          exact gst.nw a o q
      · exact .inr (.inl h)
      · exact .inr (.inr h)
  · rename_i d1 d2
    cases g2
    match ws, hl with
    | [w1, w2], _ =>
      obtain ⟨G1, gst, sG, ⟨a, xs, q1, q2, q3⟩, S2⟩ := OkS.fixTop (show OkS X.K G0 H0 W H1 (.p (.tup d1) :: (.p (.tup d2) :: ts)) (w1 :: (w2 :: vs)) _ σ from S1)
      obtain ⟨G2, gst2, sG2, ⟨b, ys, r1, r2, r3⟩, S3⟩ := OkS.fixTop S2
      refine ⟨a, b, xs, ys, by rw [q1, r1], .inr ⟨Same.sqT sG q2, Same.sqT sG2 r2, r _ _ G2 s1 ⟨gst.s.trans gst2.s, fun a o e => ?_⟩ (itOk_zt (Same.sqT gst2.s q2) r2 (RpDs.mono gst2.s _ q3) r3) S3⟩⟩
      rcases gst2.nw a o e with h | h | h
      · cases q : G1 a with
        | none => exact absurd q h
        | some u =>
          have := gst2.s a u q
          rw [e] at this; cases this
          exact gst.nw a o q
      · exact .inr (.inl h)
      · exact .inr (.inr h)
  · cases g2
theorem di_str (h : DT X e te f) : DI X tg e (iStr te) (iSg f) := by
  refine ⟨pi_str h.pe, ?_⟩
  intro G0 H0 W H ts vs env σ ds env' S g R r
  obtain ⟨⟨t, e1⟩, g1, g2⟩ := obind g
  refine h.ok _ _ _ _ _ _ _ _ _ _ S g1 _ fun v H1 s1 S1 => ?_
  dsimp only at g2
  split at g2
  · rename_i z
    cases g2
    obtain ⟨G1, gst, sG, S2⟩ := OkS.fix S1.pop
    exact ⟨z, S1.top, r _ _ G1 s1 gst itOk_s S2⟩
  · cases g2
end
/-! ### adding of any kind -/
def gAdd : D → D → Option D
  | .int i, .int j => some (.int (i + j))
  | .str s, .str t => if s.length + t.length ≤ 16777216 then some (.str (s ++ t)) else none
  | _, _ => none
def rAddA : R2 := fun x y H Q => (rI0 fun i j => .int (i + j)) x y H Q ∨ ∃ i j, x = .str i ∧ y = .str j ∧ i.length + j.length ≤ sizeLine ∧ Q (.str (i ++ j)) H
theorem op_addA {X : Cx} : OpR X (binaryOp .Add) rAddA := OpR.or op_add op_add_str
theorem sc_add : Sc2 rAddA gAdd := by
  intro a b d h K H v w Q hv hw q
  unfold gAdd at h
  split at h
  · cases h; exact .inl ⟨_, _, hv, hw, q _ fun _ => rfl⟩
  · rename_i s t
    by_cases hs : s.length + t.length ≤ 16777216
    · rw [if_pos hs] at h; cases h
      exact .inr ⟨s, t, hv, hw, by rw [sizeLine_eq]; exact hs, q _ fun _ => rfl⟩
    · rw [if_neg hs] at h; cases h
  · cases h
end DL

set_option Elab.async false
set_option linter.all false
set_option maxRecDepth 100000
namespace DL
open PySem PySem.Spec PyProof.Rows L2

/-! ### the forms that are written -/
def gSub : D → D → Option D := gI (fun _ _ => true) fun i j => i - j
def gAddI : D → D → Option D := gI (fun _ _ => true) fun i j => i + j
def gMul : D → D → Option D := gI mulOk fun i j => i * j
def gDiv : D → D → Option D := gI divOk fun i j => i / j
def gMod : D → D → Option D := gI modOk fun i j => i % j
def gPow : D → D → Option D := gI powOk fun i j => i ^ j.toNat
theorem modOk_ok {i j : Int} (h : modOk i j = true) : 0 < j := of_decide_eq_true h
def cLt : D → D → Option Bool := cmI fun i j => decide (i < j)
def cLe : D → D → Option Bool := cmI fun i j => decide (i ≤ j)
def cGt : D → D → Option Bool := cmI fun i j => decide (j < i)
def cGe : D → D → Option Bool := cmI fun i j => decide (j ≤ i)
def bLt (i j : Int) : Bool := decide (i < j)
def bLe (i j : Int) : Bool := decide (i ≤ j)
def bGt (i j : Int) : Bool := decide (j < i)
def bGe (i j : Int) : Bool := decide (j ≤ i)
def eNeg (f : EF) : EF := fun env => (f env).bind fun r => match r.1 with | .p (.int i) => some (.p (.int (-i)), r.2) | _ => none
section
variable {X : Cx} {a b e : Expr} {ta tb te : TE} {fa fb f : EF} {pos npos : Pos} {i : Nat} {x : Str}
theorem dt_add (ha : DT X a ta fa) (hb : DT X b tb fb) : DT X (.BinOp a .Add b pos) (tOp rAddA ta tb) (eOp gAdd fa fb) := dt_op op_addA sc_add ha hb
theorem dt_sub (ha : DT X a ta fa) (hb : DT X b tb fb) : DT X (.BinOp a .Sub b pos) (tOp (rI0 fun i j => .int (i - j)) ta tb) (eOp gSub fa fb) := dt_op op_sub sc_int0 ha hb
theorem dt_mul (ha : DT X a ta fa) (hb : DT X b tb fb) : DT X (.BinOp a .Mult b pos) (tOp (rI IntMulOk fun i j => .int (i * j)) ta tb) (eOp gMul fa fb) := dt_op op_mulB (sc_int fun _ _ h => mulOk_ok h) ha hb
theorem dt_div (ha : DT X a ta fa) (hb : DT X b tb fb) : DT X (.BinOp a .FloorDiv b pos) (tOp (rI CDivW fun i j => .int (i / j)) ta tb) (eOp gDiv fa fb) := dt_op op_fdivW (sc_int fun _ _ h => divOk_ok h) ha hb
theorem dt_mod (ha : DT X a ta fa) (hb : DT X b tb fb) : DT X (.BinOp a .Mod b pos) (tOp (rI (fun _ j => 0 < j) fun i j => .int (i % j)) ta tb) (eOp gMod fa fb) := dt_op op_mod (sc_int fun _ _ h => modOk_ok h) ha hb
theorem dt_pow (ha : DT X a ta fa) (hb : DT X b tb fb) : DT X (.BinOp a .Pow b pos) (tOp (rI CPow fun i j => .int (i ^ j.toNat)) ta tb) (eOp gPow fa fb) := dt_op op_pow (sc_int fun _ _ h => powOk_ok h) ha hb
theorem dt_neg (h : DT X a ta fa) : DT X (.UnaryOp .USub a pos) (tUn (rU fun i => .int (-i)) ta) (eNeg fa) := by
  refine ⟨pe_un un_neg h.pe, ?_⟩
  intro G0 H0 W H ts vs env σ t env' S e Q q
  obtain ⟨⟨u, e1⟩, h1, h2⟩ := obind e
  dsimp only at h2
  split at h2
  · rename_i k
    cases h2
    exact h.ok _ _ _ _ _ _ _ _ _ _ S h1 _ fun v H1 s1 S1 => ⟨k, S1.top, q _ H1 s1 (S1.pop.scal fun _ => rfl)⟩
  · cases h2
theorem dt_lt (ha : DV X a ta fa) (hb : DV X b tb fb) : DT X (.Compare a [.Lt] [b] pos) (tOp (rI0 fun i j => .bl (decide (i < j))) ta tb) (eCmp cLt fa fb) := dt_cmp (r := fun _ => rI0 fun i j => .bl (decide (i < j))) op_lt cm_int ha hb (nomark _)
theorem dt_le (ha : DV X a ta fa) (hb : DV X b tb fb) : DT X (.Compare a [.LtE] [b] pos) (tOp (rI0 fun i j => .bl (decide (i ≤ j))) ta tb) (eCmp cLe fa fb) := dt_cmp (r := fun _ => rI0 fun i j => .bl (decide (i ≤ j))) op_le cm_int ha hb (nomark _)
theorem dt_gt (ha : DV X a ta fa) (hb : DV X b tb fb) : DT X (.Compare a [.Gt] [b] pos) (tOp (rI0 fun i j => .bl (decide (j < i))) ta tb) (eCmp cGt fa fb) := dt_cmp (r := fun _ => rI0 fun i j => .bl (decide (j < i))) op_gt cm_int ha hb (nomark _)
theorem dt_ge (ha : DV X a ta fa) (hb : DV X b tb fb) : DT X (.Compare a [.GtE] [b] pos) (tOp (rI0 fun i j => .bl (decide (j ≤ i))) ta tb) (eCmp cGe fa fb) := dt_cmp (r := fun _ => rI0 fun i j => .bl (decide (j ≤ i))) op_ge cm_int ha hb (nomark _)
theorem dt_eq (hu : X.A.units + 64 < cLine) (ha : DV X a ta fa) (hb : DV X b tb fb) : DT X (.Compare a [.Eq] [b] pos) (tOp (rEqA X.K) ta tb) (eCmp eqQ fa fb) := dt_cmp (op_eqA hu) cm_eq ha hb (nomark _)
theorem dt_ne (hu : X.A.units + 64 < cLine) (ha : DV X a ta fa) (hb : DV X b tb fb) : DT X (.Compare a [.NotEq] [b] pos) (tOp (rNeA X.K) ta tb) (eCmp neQ fa fb) := dt_cmp (op_neA hu) cm_ne ha hb (nomark _)
theorem dt_is (ha : DV X a ta fa) (hb : DV X b tb fb) : DT X (.Compare a [.Is] [b] pos) (tOp (rIsA X.K) ta tb) (eCmp isN fa fb) := dt_cmp op_isA cm_is ha hb (nomark _)
theorem dt_isNot (ha : DV X a ta fa) (hb : DV X b tb fb) : DT X (.Compare a [.IsNot] [b] pos) (tOp (rIsNotA X.K) ta tb) (eCmp isNotN fa fb) := dt_cmp op_isNotA cm_isNot ha hb (nomark _)
theorem dt_in (ha : DV X a ta fa) (hb : DV X b tb fb) (hm : behindInMarks .In b = false := by with_unfolding_all rfl) : DT X (.Compare a [.In] [b] pos) (tOp (rInA X.K) ta tb) (eCmp inQ fa fb) := dt_cmp op_inA cm_in ha hb hm
theorem dt_notIn (ha : DV X a ta fa) (hb : DV X b tb fb) (hm : behindInMarks .NotIn b = false := by with_unfolding_all rfl) : DT X (.Compare a [.NotIn] [b] pos) (tOp (rNotInA X.K) ta tb) (eCmp notInQ fa fb) := dt_cmp op_notInA cm_notIn ha hb hm
theorem dc_lt (ha : DV X a ta fa) (hb : DV X b tb fb) : DC X (.Compare a [.Lt] [b] pos) (tTest (tOp (rI0 fun i j => .bl (decide (i < j))) ta tb)) (cT (eCmp cLt fa fb)) := dc_cmp (r := fun _ => rI0 fun i j => .bl (decide (i < j))) op_lt cm_int ha hb (nomark _)
theorem dc_le (ha : DV X a ta fa) (hb : DV X b tb fb) : DC X (.Compare a [.LtE] [b] pos) (tTest (tOp (rI0 fun i j => .bl (decide (i ≤ j))) ta tb)) (cT (eCmp cLe fa fb)) := dc_cmp (r := fun _ => rI0 fun i j => .bl (decide (i ≤ j))) op_le cm_int ha hb (nomark _)
theorem dc_gt (ha : DV X a ta fa) (hb : DV X b tb fb) : DC X (.Compare a [.Gt] [b] pos) (tTest (tOp (rI0 fun i j => .bl (decide (j < i))) ta tb)) (cT (eCmp cGt fa fb)) := dc_cmp (r := fun _ => rI0 fun i j => .bl (decide (j < i))) op_gt cm_int ha hb (nomark _)
theorem dc_ge (ha : DV X a ta fa) (hb : DV X b tb fb) : DC X (.Compare a [.GtE] [b] pos) (tTest (tOp (rI0 fun i j => .bl (decide (j ≤ i))) ta tb)) (cT (eCmp cGe fa fb)) := dc_cmp (r := fun _ => rI0 fun i j => .bl (decide (j ≤ i))) op_ge cm_int ha hb (nomark _)
theorem dc_eq (hu : X.A.units + 64 < cLine) (ha : DV X a ta fa) (hb : DV X b tb fb) : DC X (.Compare a [.Eq] [b] pos) (tTest (tOp (rEqA X.K) ta tb)) (cT (eCmp eqQ fa fb)) := dc_cmp (op_eqA hu) cm_eq ha hb (nomark _)
theorem dc_ne (hu : X.A.units + 64 < cLine) (ha : DV X a ta fa) (hb : DV X b tb fb) : DC X (.Compare a [.NotEq] [b] pos) (tTest (tOp (rNeA X.K) ta tb)) (cT (eCmp neQ fa fb)) := dc_cmp (op_neA hu) cm_ne ha hb (nomark _)
theorem dc_is (ha : DV X a ta fa) (hb : DV X b tb fb) : DC X (.Compare a [.Is] [b] pos) (tTest (tOp (rIsA X.K) ta tb)) (cT (eCmp isN fa fb)) := dc_cmp op_isA cm_is ha hb (nomark _)
theorem dc_isNot (ha : DV X a ta fa) (hb : DV X b tb fb) : DC X (.Compare a [.IsNot] [b] pos) (tTest (tOp (rIsNotA X.K) ta tb)) (cT (eCmp isNotN fa fb)) := dc_cmp op_isNotA cm_isNot ha hb (nomark _)
theorem dc_in (ha : DV X a ta fa) (hb : DV X b tb fb) (hm : behindInMarks .In b = false := by with_unfolding_all rfl) : DC X (.Compare a [.In] [b] pos) (tTest (tOp (rInA X.K) ta tb)) (cT (eCmp inQ fa fb)) := dc_cmp op_inA cm_in ha hb hm
theorem dc_notIn (ha : DV X a ta fa) (hb : DV X b tb fb) (hm : behindInMarks .NotIn b = false := by with_unfolding_all rfl) : DC X (.Compare a [.NotIn] [b] pos) (tTest (tOp (rNotInA X.K) ta tb)) (cT (eCmp notInQ fa fb)) := dc_cmp op_notInA cm_notIn ha hb hm
theorem dt_len (hg : Gl X "len") (hm : X.mg "len" = none) (h : DV X a ta fa) (hs : starEach [a] X.env = (false, eval a X.env) :: starEach [] X.env := by rfl) : DT X (.Call (.Name "len" npos) [a] [] pos) (tCB (rLenA X.K) (tCons ta tNil)) (eB1 gLen fa) := dt_b1 call_lenA bi_len hg hm PySem.boot_len h hs
theorem dt_sum (hc : X.calm = true) (hg : Gl X "sum") (hm : X.mg "sum" = none) (h : DV X a ta fa) (hv : bootBuiltins "sum" = some (.builtin "sum") := by decide +kernel) (hs : starEach [a] X.env = (false, eval a X.env) :: starEach [] X.env := by rfl) : DT X (.Call (.Name "sum" npos) [a] [] pos) (tCB (rSum X.K) (tCons ta tNil)) (eB1 gSum fa) := dt_b1 (cr_sum hc) bi_sum hg hm hv h hs
theorem dt_str1 (hg : Gl X "str") (hm : X.mg "str" = none) (h : DV X a ta fa) (hv : bootBuiltins "str" = some (.type "str") := by decide +kernel) (hs : starEach [a] X.env = (false, eval a X.env) :: starEach [] X.env := by rfl) : DT X (.Call (.Name "str" npos) [a] [] pos) (tCB (rStrA X.K) (tCons ta tNil)) (eB1 gStr fa) := dt_ty1 call_strA bi_str hg hm hv h hs
theorem dt_int1 (hg : Gl X "int") (hm : X.mg "int" = none) (h : DV X a ta fa) (hv : bootBuiltins "int" = some (.type "int") := by decide +kernel) (hs : starEach [a] X.env = (false, eval a X.env) :: starEach [] X.env := by rfl) : DT X (.Call (.Name "int" npos) [a] [] pos) (tCB (rIntA X.K) (tCons ta tNil)) (eB1 gInt fa) := dt_ty1 call_intA bi_int hg hm hv h hs
theorem dt_max2 {tr : TA} {fr : AF} (hc : X.calm = true) (hg : Gl X "max") (hm : X.mg "max" = none) (h : DA X [a, b] tr fr) (hv : bootBuiltins "max" = some (.builtin "max") := by decide +kernel) (he : starEach [a, b] X.env = (false, eval a X.env) :: starEach [b] X.env := by rfl) (hpl : (backTo pos (starEach [b] X.env)).any (·.1) = false := by rfl) : DT X (.Call (.Name "max" npos) [a, b] [] pos) (tCB (fun xs H Q => ∃ i j, xs = [.int i, .int j] ∧ Q (.int (if j > i then j else i)) H) tr) (eI2 maxI fr) := dt_i2 (call_max2 hc) hr_max hg hm hv h (by decide) (by decide) he hpl
theorem dt_min2 {tr : TA} {fr : AF} (hc : X.calm = true) (hg : Gl X "min") (hm : X.mg "min" = none) (h : DA X [a, b] tr fr) (hv : bootBuiltins "min" = some (.builtin "min") := by decide +kernel) (he : starEach [a, b] X.env = (false, eval a X.env) :: starEach [b] X.env := by rfl) (hpl : (backTo pos (starEach [b] X.env)).any (·.1) = false := by rfl) : DT X (.Call (.Name "min" npos) [a, b] [] pos) (tCB (fun xs H Q => ∃ i j, xs = [.int i, .int j] ∧ Q (.int (if j < i then j else i)) H) tr) (eI2 minI fr) := dt_i2 (call_min2 hc) hr_min hg hm hv h (by decide) (by decide) he hpl
end
/-! ### the law's end -/
theorem end_law {K : PySem.W.Frag} {H : Hp} {a : Addr} {ns : List Int} {φ : List D → Option T} (h : φ [.lst (ns.map D.int)] = some (.p (.bl true))) (hS : Rd H a (.lst (ns.map V.int))) {E : XK} : spD 1 φ K [.ref a] H (fun v _ => v = .bl true) E := by
  refine ⟨[.lst (ns.map D.int)], _, H, rfl, h, Same.refl _, ⟨.ref a, [], rfl, ⟨a, _, rfl, hS, ?_⟩, rfl⟩, fun v G' H' o _ _ _ r _ _ _ => r.1⟩
  have gen : ∀ ns : List Int, RpDs K H (ns.map D.int) (ns.map V.int) := fun ns => by
    induction ns with
    | nil => rfl
    | cons n ns ih => exact ⟨.int n, _, rfl, rfl, ih⟩
  exact gen ns
end DL

set_option Elab.async false
set_option linter.all false
set_option maxRecDepth 100000
namespace DL
open PySem PySem.Spec PyProof.Rows L2

/-! ### a call whose arguments are looked at alone -/
def EvVs (K : PySem.W.Frag) (ta : TA) (f : AF) : Prop := ∀ (G0 H0 : Hp) (W : List (T × V)) (H : Hp) (ts : List T) (vs : List V) (env : Env) (σ : St) (us : List T) (env' : Env), OkS K G0 H0 W H ts vs env σ → f env = some (us, env') →
  ∀ Q : List V → Hp → Prop, (∀ ws H', Same H H' → ws.length = us.length → OkS K G0 H0 (us.zip ws ++ W) H' ts vs env' σ → Q ws H') → ta σ H Q
structure DVs (X : Cx) (es : List Expr) (ta : TA) (f : AF) : Prop where
  pa : PA X es ta
  ok : EvVs X.K ta f
section
variable {X : Cx} {e : Expr} {es : List Expr} {te : TE} {tr : TA} {f : EF} {fr : AF}
theorem OkS.views {K : PySem.W.Frag} {G0 H0 H : Hp} {W W' : List (T × V)} {ts : List T} {vs : List V} {env : Env} {σ : St} (S : OkS K G0 H0 W H ts vs env σ) (h : ∀ q ∈ W', q ∈ W) : OkS K G0 H0 W' H ts vs env σ := by
  obtain ⟨G, ot, oe, s⟩ := S
  exact ⟨G, ot, oe, s.tmp, s.env, s.nd, s.fr, s.g0, s.gh, s.h0, s.nw, fun q hq => s.vw q (h q hq)⟩
theorem dvs_nil : DVs X [] tNil aN := by
  refine ⟨pa_nil, ?_⟩
  intro G0 H0 W H ts vs env σ us env' S e Q q
  cases e
  exact q [] H (Same.refl _) rfl S
theorem dvs_cons (h : DV X e te f) (hr : DVs X es tr fr) (hs : starEach (e :: es) X.env = (false, eval e X.env) :: starEach es X.env := by rfl) : DVs X (e :: es) (tCons te tr) (aC f fr) := by
  refine ⟨pa_cons h.pe hr.pa hs, ?_⟩
  intro G0 H0 W H ts vs env σ us env' S g Q q
  obtain ⟨⟨x, e1⟩, h1, h2⟩ := obind g
  obtain ⟨⟨y, e2⟩, h3, h4⟩ := omap h2
  cases h4
  refine h.ok _ _ _ _ _ _ _ _ _ _ S h1 _ fun v H1 s1 S1 => ?_
  refine hr.ok _ _ _ _ _ _ _ _ _ _ S1 h3 _ fun ws H2 s2 hl S2 => ?_
  refine q (v :: ws) H2 (s1.trans s2) (by simp [hl]) (S2.views fun q hq => ?_)
  simp only [List.zip_cons_cons, List.cons_append, List.mem_cons, List.mem_append] at hq ⊢
  rcases hq with h | h | h
  · exact .inr (.inl h)
  · exact .inl h
  · exact .inr (.inr h)
end
mutual
def cleanT : T → Bool
  | .p .non => true
  | .p (.bl _) => true
  | .p (.int _) => true
  | .p (.str _) => true
  | .p _ => false
  | .lst ts => cleanTs ts
  | .tup _ => false
  | _ => false
def cleanTs : List T → Bool
  | [] => true
  | t :: ts => cleanT t && cleanTs ts
end
section
variable {K : PySem.W.Frag} {G G' H : Hp}
mutual
theorem Rp.clean : ∀ {t : T} {v : V} {o : List Addr}, cleanT t = true → Rp K G H t v o → Rp K G' H t v o
  | .p .non, _, _, _, h => h
  | .p (.bl _), _, _, _, h => h
  | .p (.int _), _, _, _, h => h
  | .p (.str _), _, _, _, h => h
  | .p (.lst _), _, _, c, _ => by cases c
  | .p (.tup _), _, _, c, _ => by cases c
  | .p (.dic _), _, _, c, _ => by cases c
  | .p (.dit _), _, _, c, _ => by cases c
  | .p (.obj _ _), _, _, c, _ => by cases c
  | .p (.al _), _, _, c, _ => by cases c
  | .lst ts, _, _, c, ⟨a, vs, o', h1, h2, h3, h4⟩ => ⟨a, vs, o', h1, h2, RpTs.clean (show cleanTs ts = true from c) h3, h4⟩
  | .tup _, _, _, c, _ => by cases c
  | .dic _, _, _, c, _ => by cases c
  | .dit _, _, _, c, _ => by cases c
  | .obj _ _, _, _, c, _ => by cases c
  | .box _ _, _, _, c, _ => by cases c
  | .al _, _, _, c, _ => by cases c
theorem RpTs.clean : ∀ {ts : List T} {vs : List V} {o : List Addr}, cleanTs ts = true → RpTs K G H ts vs o → RpTs K G' H ts vs o
  | [], _, _, _, h => h
  | t :: ts, _, _, c, ⟨v, r, o1, o2, h1, h2, h3, h4⟩ => by
    have c' : (cleanT t && cleanTs ts) = true := c
    rw [Bool.and_eq_true] at c'
    exact ⟨v, r, o1, o2, h1, Rp.clean c'.1 h2, RpTs.clean c'.2 h3, h4⟩
end
end
def eCallB (φ : List D → Option T) (fa : AF) : EF := fun env => (fa env).bind fun r => (φ (T.toDs r.1)).bind fun t => if cleanT t then some (t, r.2) else none
theorem rpDs_views {K : PySem.W.Frag} {H : Hp} : ∀ {us : List T} {ws : List V}, ws.length = us.length → (∀ q ∈ us.zip ws, RpD K H q.1.toD q.2) → RpDs K H (T.toDs us) ws
  | [], [], _, _ => rfl
  | u :: us, w :: ws, hl, h => ⟨w, ws, rfl, h (u, w) (by simp), rpDs_views (by simpa using hl) fun q hq => h q (by simp [hq])⟩
  | [], _ :: _, hl, _ => by simp at hl
  | _ :: _, [], hl, _ => by simp at hl
theorem ev_callB {K : PySem.W.Frag} {n : Nat} {φ : List D → Option T} {ta : TA} {fa : AF} (hφ : ∀ ds t, φ ds = some t → ds.length = n) (ha : EvVs K ta fa) : EvT K (tCall (spD n φ K) [] E0 ta) (eCallB φ fa) := by
  intro G0 H0 W H ts vs env σ t env' S g Q q
  obtain ⟨⟨us, e1⟩, g1, g2⟩ := obind g
  obtain ⟨t', g3, g4⟩ := obind g2
  by_cases hc : cleanT t' = true
  · rw [if_pos hc] at g4
    cases g4
    refine ha _ _ _ _ _ _ _ _ _ _ S g1 _ fun ws H1 s1 hl S1 => ?_
    have hds := rpDs_views hl fun q hq => S1.see (List.mem_append_left _ hq)
    have S2 := S1.views (W' := W) fun q hq => List.mem_append_right _ hq
    obtain ⟨G, ot, oe, s⟩ := S2
    refine ⟨T.toDs us, t, H1, hφ _ _ g3, g3, Same.refl _, by rw [List.append_nil]; exact hds, fun v G' H' o h1 h2 h3 h4 h5 h6 h7 => ?_⟩
    refine q v H' (s1.trans h3) (OkS.called s (Same.refl G) (fun b u e => h3 b u (s.gh b u e)) h3 (h4.clean hc) h5 (fun a ha => ⟨Same.none s.gh (h6 a ha).2, (h6 a ha).2⟩) fun a u e => .inl (by rw [e]; simp))
  · rw [if_neg hc] at g4; cases g4
theorem dt_callB {X : Cx} {k : Nat} {f : Addr} {fd : FuncData} {ps : List Str} {n : Nat} {φ : List D → Option T} {x : Str} {p pos : Pos} {e : Expr} {es : List Expr} {ta : TA} {fa : AF}
    (hφ : ∀ ds t, φ ds = some t → ds.length = n) (F : FnOk X.prog X.w X.K X.mg X.base CX0 k f fd ps (spD n φ X.K)) (hr : Room k X.A) (hg : Gl X x) (hm : X.mg x = some (.ref f)) (hk : PySem.W.keepIn X.K (.ref f) = true) (hb : Binds X.K fd ps [])
    (ha : DVs X (e :: es) ta fa) (hdb : (x == ("__debug__" : Str)) = false := by decide) (he : starEach (e :: es) X.env = (false, eval e X.env) :: starEach es X.env := by rfl) (hpl : (backTo pos (starEach es X.env)).any (·.1) = false := by rfl) :
    DT X (.Call (.Name x p) (e :: es) [] pos) (tCall (spD n φ X.K) [] E0 ta) (eCallB φ fa) := ⟨pe_call F hr hg hm hk hb .nil pass0 ha.pa hdb he hpl, ev_callB hφ ha.ok⟩
theorem dt_call0 {X : Cx} {k : Nat} {f : Addr} {fd : FuncData} {ps : List Str} {n : Nat} {φ : List D → Option T} {x : Str} {p pos : Pos}
    (hφ : ∀ ds t, φ ds = some t → ds.length = n) (F : FnOk X.prog X.w X.K X.mg X.base CX0 k f fd ps (spD n φ X.K)) (hr : Room k X.A) (hg : Gl X x) (hm : X.mg x = some (.ref f)) (hk : PySem.W.keepIn X.K (.ref f) = true) (hb : Binds X.K fd ps [])
    (hdb : (x == ("__debug__" : Str)) = false := by decide) :
    DT X (.Call (.Name x p) [] [] pos) (tCall (spD n φ X.K) [] E0 tNil) (eCall φ aN) := ⟨pe_call0 F hr hg hm hk hb .nil pass0 hdb, ev_call hφ da_nil.ok⟩
/-! ### a walk over a list that stays its holder's -/
def sForV (i : Nat) (G : GF) (body : SF) : SF := fun env => (atL env i).bind fun us => (allP us).bind fun ds => (loopD G body ds (env.set i none)).map fun r => (r.1, match r.1 with
  | .rt _ => r.2
  | _ => r.2.set i (some (.lst us)))
theorem ds_forV {X : Cx} {tg : Expr} {body : List Stmt} {g : TG} {G : GF} {tb : TS} {F : SF} {pos npos : Pos} {sl sl2 : List Nat} (i : Nat) {x : Str} (hp : PassesOwn (model X.prog X.w) X.A X.env X.xe) (hc : X.calm = true) (hg : DG X tg g G sl) (hb : DSs X body tb F sl2) (hi : i ∉ sl ++ sl2)
    (hN : X.N[i]? = some x := by rfl) (hv : Vis X.env.scope x := by first | exact Or.inl rfl | exact Or.inr (Or.inl rfl) | exact Or.inr (Or.inr rfl)) (hd : (x == ("__debug__" : Str)) = false := by decide) (hcd : (x == ("__classdict__" : Str)) = false := by decide)
    (hs : ∀ z, foldedSetIterable (.Name x npos) X.env z = pure z := by intro _; rfl) : DS X (.For tg (.Name x npos) body [] pos) (tFor (iList X.K (tVar i)) g tb) (sForV i G F) (sl ++ sl2) := by
  refine ⟨ps_for hp hc (pi_list (pe_var hN hv hd hcd)) hg.pg hb.ps hs, ?_⟩
  intro G0 H0 H ts vs env σ fl env' S e D q
  obtain ⟨us, g1, g2⟩ := obind e
  obtain ⟨ds, g3, g4⟩ := obind g2
  obtain ⟨⟨fl2, e2⟩, g5, g6⟩ := omap g4
  have hus := allP_eq g3
  subst hus
  have he := atL_eq g1
  obtain ⟨v, hv1, S1⟩ := S.get he
  have hlen : i < σ.length := (List.getElem?_eq_some_iff.mp hv1).1
  -- what stands in the list
  have cell : ∀ {H1 : Hp} {env1 : Env} {σ1 : St}, OkS X.K G0 H0 [] H1 (.lst (ds.map T.p) :: ts) (v :: vs) env1 σ1 → ∃ a xs, v = .ref a ∧ H1 a = some (.lst xs) ∧ xs.length = ds.length ∧ ∀ (k : Nat) (d : DL.D), ds[k]? = some d → ∃ w, xs[k]? = some w ∧ OkS X.K G0 H0 [] H1 (.p d :: .lst (ds.map T.p) :: ts) (w :: v :: vs) env1 σ1 := fun {H1 env1 σ1} S => by
    obtain ⟨G, ot, oe, s⟩ := S
    obtain ⟨u, r, o1, o2, h1, ⟨a, xs, o', k1, k2, k3, k4⟩, h3, h4⟩ := id s.tmp
    cases h1
    obtain ⟨k5, k6⟩ := rpDs_of k3
    refine ⟨a, xs, k1, k2, k5.len, fun k d hd => ?_⟩
    obtain ⟨w, w1, w2⟩ := k5.get hd
    exact ⟨w, w1, G, ot, oe, ⟨w, _, [], ot, rfl, ⟨w2, rfl⟩, s.tmp, rfl⟩, s.env, s.nd, s.fr, s.g0, s.gh, s.h0, s.nw, s.vw⟩
  obtain ⟨a, xs0, ev, hx0, _⟩ := cell S1
  subst ev
  refine ⟨.ref a, hv1, a, rfl, ⟨xs0, .inl (.inl hx0)⟩, ?_⟩
  refine ⟨fun k m σ2 H => m = ds.length - k ∧ k ≤ ds.length ∧ Dif (sl ++ sl2) σ σ2 ∧ ∃ env, OkS X.K G0 H0 [] H (.lst (ds.map T.p) :: ts) (.ref a :: vs) env σ2 ∧ loopD G F (ds.drop k) env = some (fl2, e2), ⟨ds.length, by simp, Nat.zero_le _, .rfl', _, S1, by simpa using g5⟩, ?_⟩
  rintro k m σ2 H2 ⟨rfl, hle, df, env2, S2, hl⟩
  obtain ⟨a', xs, ea, hx, hxl, hit⟩ := cell S2
  cases ea
  have fin : ∀ (fl : Fl) (env3 : Env) (H3 : Hp) (σ3 : St), (fl2, e2) = (.nx, env3) → OkS X.K G0 H0 [] H3 (.lst (ds.map T.p) :: ts) (.ref a :: vs) env3 σ3 → Dif (sl ++ sl2) σ σ3 → D.nx σ3 H3 := fun _ env3 H3 σ3 e S3 df3 => by
    cases e
    cases g6
    have h3 : σ3[i]? = some (some (.ref a)) := (df3.2 i hi).trans hv1
    have S4 := S3.put (i := i) (by have := S3.len; rw [df3.1] at this; omega)
    rw [set_back h3] at S4
    exact q H3 σ3 S4 df3
  by_cases hlt : k < ds.length
  · obtain ⟨w, hw, S3⟩ := hit k ds[k] (List.getElem?_eq_getElem hlt)
    refine .inr ⟨⟨xs, w, .inl (.inl hx), hw⟩, fun σ' H' => k + 1 ≤ ds.length ∧ Dif (sl ++ sl2) σ σ' ∧ ∃ env, OkS X.K G0 H0 [] H' (.lst (ds.map T.p) :: ts) (.ref a :: vs) env σ' ∧ loopD G F (ds.drop (k + 1)) env = some (fl2, e2), fun σ' H' ⟨h1, h2⟩ => ⟨ds.length - (k + 1), by omega, rfl, h1, h2⟩, fun y H3 hy => ?_⟩
    obtain ⟨eH, hy⟩ := hy
    subst eH
    have ey : w = y := Option.some.inj (hw.symm.trans (hy xs (.inl (.inl hx))))
    subst ey
    rw [List.drop_eq_getElem_cons hlt] at hl
    obtain ⟨e3, l1, l2⟩ := obind hl
    obtain ⟨⟨fl3, e4⟩, l3, l4⟩ := obind l2
    refine hg.ok _ _ _ _ _ _ _ _ _ _ _ S3 l1 _ fun σ' S' f1 => ?_
    refine hb.ok _ _ _ _ _ _ _ _ _ S' l3 _ ?_
    cases fl3 with
    | nx => exact fun H' σ4 S4 f2 => ⟨hlt, df.two (f1.tr f2), e4, S4, l4⟩
    | ct => exact fun H' σ4 S4 f2 => ⟨hlt, df.two (f1.tr f2), e4, S4, l4⟩
    | bk => exact fun H' σ4 S4 f2 => fin .nx e4 H' σ4 (Option.some.inj l4).symm S4 (df.two (f1.tr f2))
    | rt t =>
      have e5 : (Fl.rt t, e4) = (fl2, e2) := Option.some.inj l4
      cases e5
      cases g6
      refine fun u H' σ4 S4 f2 => q u H' σ4 ?_ (df.two (f1.tr f2))
      have S5 := OkS.mid (us := [t]) (ws := [u]) (x := .lst (ds.map T.p)) (y := .ref a) rfl S4
      exact OkS.pop S5
  · have hk : k = ds.length := by omega
    subst hk
    rw [List.drop_length] at hl
    exact .inl ⟨⟨xs, .inl (.inl hx), by omega⟩, fin .nx env2 H2 σ2 (Option.some.inj hl).symm S2 df⟩
end DL

set_option Elab.async false
set_option linter.all false
set_option maxRecDepth 100000
/-! What the functions on data give, step by step. -/
namespace DL
open PySem PySem.Spec PyProof.Rows L2
section
variable {env : Env} {i j : Int} {a b : D} {t : T} {f g : EF}
theorem gAdd_i : gAdd (.int i) (.int j) = some (.int (i + j)) := rfl
theorem gAdd_s {s u : Str} (h : s.length + u.length ≤ 16777216) : gAdd (.str s) (.str u) = some (.str (s ++ u)) := if_pos h
theorem gSub_i : gSub (.int i) (.int j) = some (.int (i - j)) := rfl
theorem gAddI_i : gAddI (.int i) (.int j) = some (.int (i + j)) := rfl
theorem gMul_l (h1 : -18446744073709551616 < i) (h2 : i < 18446744073709551616) : gMul (.int i) (.int j) = some (.int (i * j)) := if_pos (by unfold mulOk; exact decide_eq_true (.inl ⟨h1, h2⟩))
theorem gMul_r (h1 : -18446744073709551616 < j) (h2 : j < 18446744073709551616) : gMul (.int i) (.int j) = some (.int (i * j)) := if_pos (by unfold mulOk; exact decide_eq_true (.inr (.inl ⟨h1, h2⟩)))
theorem gMul_b (h : Builtin.Int.intBits i + Builtin.Int.intBits j ≤ 134217728) : gMul (.int i) (.int j) = some (.int (i * j)) := if_pos (by unfold mulOk; exact decide_eq_true (.inr (.inr h)))
theorem gDiv_i (h1 : 0 < j) (h2 : j < 1606938044258990275541962092341162602522202993782792835301376) : gDiv (.int i) (.int j) = some (.int (i / j)) := if_pos (by unfold divOk; exact decide_eq_true ⟨h1, h2⟩)
theorem gMod_i (h1 : 0 < j) : gMod (.int i) (.int j) = some (.int (i % j)) := if_pos (by unfold modOk; exact decide_eq_true h1)
theorem gPow_i (h1 : 0 ≤ j) (h2 : j ≤ 1000) (h3 : 0 ≤ i) (h4 : i < 18446744073709551616) : gPow (.int i) (.int j) = some (.int (i ^ j.toNat)) := if_pos (by unfold powOk; exact decide_eq_true ⟨h1, h2, h3, h4⟩)
theorem cLt_i : cLt (.int i) (.int j) = some (decide (i < j)) := rfl
theorem cLe_i : cLe (.int i) (.int j) = some (decide (i ≤ j)) := rfl
theorem cGt_i : cGt (.int i) (.int j) = some (decide (j < i)) := rfl
theorem cGe_i : cGe (.int i) (.int j) = some (decide (j ≤ i)) := rfl
theorem eqQ_i : eqQ (.int i) (.int j) = some (decide (i = j)) := by
  show (if scal (.int i) (.int j) = true then some (decide (V.int i = V.int j)) else none) = _
  rw [if_pos (show scal _ _ = true from rfl)]
  simp
theorem neQ_i : neQ (.int i) (.int j) = some (!decide (i = j)) := by unfold neQ; rw [eqQ_i]; rfl
theorem eqQ_s {s u : Str} : eqQ (.str s) (.str u) = some (decide (s = u)) := by
  show (if scal (.str s) (.str u) = true then some (decide (V.str s = V.str u)) else none) = _
  rw [if_pos (show scal _ _ = true from rfl)]
  simp
theorem neQ_s {s u : Str} : neQ (.str s) (.str u) = some (!decide (s = u)) := by unfold neQ; rw [eqQ_s]; rfl
theorem eqQ_b {s u : Bool} : eqQ (.bl s) (.bl u) = some (decide (s = u)) := by
  show (if scal (.bl s) (.bl u) = true then some (decide (V.bl s = V.bl u)) else none) = _
  rw [if_pos (show scal _ _ = true from rfl)]
  simp
theorem neQ_b {s u : Bool} : neQ (.bl s) (.bl u) = some (!decide (s = u)) := by unfold neQ; rw [eqQ_b]; rfl
/-- lists of ints -/
theorem toPys_ints : ∀ ns : List Int, toPys (ns.map D.int) = some (ns.map PyData.int)
  | [] => rfl
  | n :: ns => by
    show (toPy (.int n)).bind (fun p => (toPys (ns.map D.int)).map (p :: ·)) = _
    rw [toPys_ints ns]; rfl
theorem canLay_ints : ∀ ns : List Int, PyData.canLayAll0 (ns.map PyData.int) = true
  | [] => rfl
  | n :: ns => by show (PyData.canLay0 (.int n) && PyData.canLayAll0 (ns.map PyData.int)) = true; rw [canLay_ints ns]; rfl
theorem depth_ints : ∀ ns : List Int, PyData.depthAll (ns.map PyData.int) = 0
  | [] => rfl
  | n :: ns => by show max (PyData.depth (.int n)) (PyData.depthAll (ns.map PyData.int)) = 0; rw [depth_ints ns]; rfl
theorem shaped_ints (ns : List Int) : SeqAt.shaped (.list (ns.map PyData.int)) = true := by
  unfold SeqAt.shaped
  rw [show PyData.canLay0 (.list (ns.map PyData.int)) = PyData.canLayAll0 (ns.map PyData.int) from rfl, canLay_ints, show PyData.depth (.list (ns.map PyData.int)) = PyData.depthAll (ns.map PyData.int) + 1 from rfl, depth_ints]
  rfl
theorem eqvAll_ints : ∀ ns ms : List Int, PyData.eqvAll (ns.map PyData.int) (ms.map PyData.int) = decide (ns = ms)
  | [], [] => rfl
  | [], m :: ms => rfl
  | n :: ns, [] => rfl
  | n :: ns, m :: ms => by
    show (PyData.eqv (.int n) (.int m) && PyData.eqvAll (ns.map PyData.int) (ms.map PyData.int)) = _
    rw [eqvAll_ints ns ms]
    show ((n == m) && decide (ns = ms)) = _
    rw [Bool.eq_iff_iff]; simp
theorem eqQ_ints {ns ms : List Int} : eqQ (.lst (ns.map D.int)) (.lst (ms.map D.int)) = some (decide (ns = ms)) := by
  show eqDeep _ _ = _
  unfold eqDeep
  rw [show toPy (.lst (ns.map D.int)) = some (.list (ns.map PyData.int)) by show (toPys _).map _ = _; rw [toPys_ints]; rfl, show toPy (.lst (ms.map D.int)) = some (.list (ms.map PyData.int)) by show (toPys _).map _ = _; rw [toPys_ints]; rfl]
  show (if (SeqAt.shaped _ && SeqAt.shaped _) = true then some (PyData.eqv _ _) else none) = _
  rw [shaped_ints, shaped_ints, if_pos (show (true && true) = true from rfl)]
  exact congrArg some (eqvAll_ints ns ms)
theorem neQ_ints {ns ms : List Int} : neQ (.lst (ns.map D.int)) (.lst (ms.map D.int)) = some (!decide (ns = ms)) := by unfold neQ; rw [eqQ_ints]; rfl
theorem allP_map (ds : List D) : allP (ds.map T.p) = some ds := by
  induction ds with
  | nil => rfl
  | cons d ds ih => simp [allP, ih]
theorem itemsT_l {ds : List D} : itemsT (.lst (ds.map T.p)) = some ds := allP_map ds
theorem toD_l {ds : List D} : (T.lst (ds.map T.p)).toD = .lst ds := by show D.lst (T.toDs _) = _; rw [toDs_p]
theorem gSum_p {ns : List Int} : gSum (.p (.lst (ns.map D.int))) = some (.int ns.sum) := by
  show (intsD (ns.map D.int)).map _ = _
  rw [intsD_map]; rfl
theorem gSum_l {ns : List Int} : gSum (.lst ((ns.map D.int).map T.p)) = some (.int ns.sum) := by
  unfold gSum
  rw [toD_l]
  show (intsD (ns.map D.int)).map _ = _
  rw [intsD_map]; rfl
theorem gLen_p {ds : List D} : gLen (.p (.lst ds)) = some (.int ds.length) := rfl
theorem gLen_l {ts : List T} : gLen (.lst ts) = some (.int ts.length) := rfl
end
theorem atI_0 {α : Type} {x0 : α} {xs : List α} : atI (x0 :: xs) 0 = some x0 := atI_nat (j := 0) rfl
theorem atI_1 {α : Type} {x0 x1 : α} {xs : List α} : atI (x0 :: x1 :: xs) 1 = some x1 := atI_nat (j := 1) rfl
theorem atI_2 {α : Type} {x0 x1 x2 : α} {xs : List α} : atI (x0 :: x1 :: x2 :: xs) 2 = some x2 := atI_nat (j := 2) rfl
theorem atI_3 {α : Type} {x0 x1 x2 x3 : α} {xs : List α} : atI (x0 :: x1 :: x2 :: x3 :: xs) 3 = some x3 := atI_nat (j := 3) rfl
theorem atI_4 {α : Type} {x0 x1 x2 x3 x4 : α} {xs : List α} : atI (x0 :: x1 :: x2 :: x3 :: x4 :: xs) 4 = some x4 := atI_nat (j := 4) rfl
theorem atI_5 {α : Type} {x0 x1 x2 x3 x4 x5 : α} {xs : List α} : atI (x0 :: x1 :: x2 :: x3 :: x4 :: x5 :: xs) 5 = some x5 := atI_nat (j := 5) rfl
theorem atI_6 {α : Type} {x0 x1 x2 x3 x4 x5 x6 : α} {xs : List α} : atI (x0 :: x1 :: x2 :: x3 :: x4 :: x5 :: x6 :: xs) 6 = some x6 := atI_nat (j := 6) rfl
theorem ixT_lst {ts : List T} {i : Int} : ixT (.lst ts) i = atI ts i := rfl
theorem ixT_pl {ds : List D} {i : Int} : ixT (.p (.lst ds)) i = (atI ds i).map T.p := rfl
theorem ixT_pt {ds : List D} {i : Int} : ixT (.p (.tup ds)) i = (atI ds i).map T.p := rfl
theorem atI_map {α β : Type} (f : α → β) (xs : List α) (i : Int) : atI (xs.map f) i = (atI xs i).map f := by
  unfold atI
  rw [List.length_map]
  cases ixN xs.length i with
  | none => rfl
  | some j => show (xs.map f)[j]? = (xs[j]?).map f; rw [List.getElem?_map]
/-- a walk through a whole list: what holds ahead of each turn -/
theorem loop_inv {G : GF} {body : SF} (P : Nat → Env → Prop) : ∀ (ds : List D) (k : Nat) (env : Env), P k env → (∀ (i : Nat) (d : D) (e : Env), ds[i]? = some d → P (k + i) e → ∃ e1 e2, G (.p d) e = some e1 ∧ body e1 = some (.nx, e2) ∧ P (k + i + 1) e2) →
    ∃ e', loopD G body ds env = some (.nx, e') ∧ P (k + ds.length) e'
  | [], k, env, h0, _ => ⟨env, rfl, h0⟩
  | d :: ds, k, env, h0, hs => by
    obtain ⟨e1, e2, h1, h2, h3⟩ := hs 0 d env rfl h0
    obtain ⟨e', h4, h5⟩ := loop_inv P ds (k + 1) e2 h3 fun i d e hd hp => by
      have := hs (i + 1) d e (by simpa using hd) (by rw [show k + (i + 1) = k + 1 + i by omega]; exact hp)
      rw [show k + (i + 1) + 1 = k + 1 + i + 1 by omega] at this
      exact this
    refine ⟨e', ?_, by rw [List.length_cons, show k + (ds.length + 1) = k + 1 + ds.length by omega]; exact h5⟩
    show (G (.p d) env).bind _ = _
    rw [h1]
    show (body e1).bind _ = _
    rw [h2]
    exact h4
/-- a comprehension that keeps all -/
theorem comp_map {own : List Nat} {G : GF} {test : CF} {elt : EF} {env : DL.Env} (f : D → T) : ∀ ds : List D, (∀ d ∈ ds, ∃ e1 e2 e3, G (.p d) env = some e1 ∧ test e1 = some (true, e2) ∧ elt e2 = some (f d, e3) ∧ wipeE e3 own = env) → compD own G test elt ds env = some (ds.map f, env)
  | [], _ => rfl
  | d :: ds, h => by
    obtain ⟨e1, e2, e3, h1, h2, h3, h4⟩ := h d (by simp)
    have ih := comp_map f ds fun x hx => h x (by simp [hx])
    simp only [compD, h1, h2, h3, h4, ih, Option.bind_some, Option.map_some, ↓reduceIte, List.map_cons]
/-- .. that keeps some -/
theorem comp_filter {own : List Nat} {G : GF} {test : CF} {elt : EF} {env : DL.Env} (p : D → Bool) (f : D → T) : ∀ ds : List D, (∀ d ∈ ds, ∃ e1 e2, G (.p d) env = some e1 ∧ test e1 = some (p d, e2) ∧ (p d = true → ∃ e3, elt e2 = some (f d, e3) ∧ wipeE e3 own = env) ∧ (p d = false → wipeE e2 own = env)) → compD own G test elt ds env = some ((ds.filter p).map f, env)
  | [], _ => rfl
  | d :: ds, h => by
    obtain ⟨e1, e2, h1, h2, h3, h4⟩ := h d (by simp)
    have ih := comp_filter p f ds fun x hx => h x (by simp [hx])
    cases hp : p d with
    | true =>
      obtain ⟨e3, h5, h6⟩ := h3 hp
      simp only [compD, h1, h2, hp, h5, h6, ih, Option.bind_some, Option.map_some, ↓reduceIte, List.filter_cons_of_pos, List.map_cons]
    | false =>
      rw [List.filter_cons_of_neg (by rw [hp]; exact Bool.false_ne_true)]
      simp only [compD, h1, h2, hp, h4 hp, ih, Option.bind_some, Bool.false_eq_true, ↓reduceIte]
/-- .. over a written image of a list, with tests and items that change no names -/
theorem comp_img {α : Type} {own : List Nat} {G : GF} {test : CF} {elt : EF} {env : DL.Env} (dd : α → D) (e1 : α → DL.Env) (f : α → T) (xs : List α) (h : ∀ x ∈ xs, G (.p (dd x)) env = some (e1 x) ∧ test (e1 x) = some (true, e1 x) ∧ elt (e1 x) = some (f x, e1 x) ∧ wipeE (e1 x) own = env) : compD own G test elt (xs.map dd) env = some (xs.map f, env) := by
  induction xs with
  | nil => rfl
  | cons x xs ih =>
    obtain ⟨h1, h2, h3, h4⟩ := h x (by simp)
    have ih := ih fun y hy => h y (by simp [hy])
    simp only [List.map_cons, compD, h1, h2, h3, h4, ih, Option.bind_some, Option.map_some, ↓reduceIte]
theorem comp_imgF {α : Type} {own : List Nat} {G : GF} {test : CF} {elt : EF} {env : DL.Env} (dd : α → D) (e1 : α → DL.Env) (p : α → Bool) (f : α → T) (xs : List α) (h : ∀ x ∈ xs, G (.p (dd x)) env = some (e1 x) ∧ test (e1 x) = some (p x, e1 x) ∧ (p x = true → elt (e1 x) = some (f x, e1 x)) ∧ wipeE (e1 x) own = env) : compD own G test elt (xs.map dd) env = some ((xs.filter p).map f, env) := by
  induction xs with
  | nil => rfl
  | cons x xs ih =>
    obtain ⟨h1, h2, h3, h4⟩ := h x (by simp)
    have ih := ih fun y hy => h y (by simp [hy])
    cases hp : p x with
    | true => simp only [List.map_cons, compD, h1, h2, hp, h3 hp, h4, ih, Option.bind_some, Option.map_some, ↓reduceIte, List.filter_cons_of_pos]
    | false =>
      rw [List.filter_cons_of_neg (by rw [hp]; exact Bool.false_ne_true)]
      simp only [List.map_cons, compD, h1, h2, hp, h4, ih, Option.bind_some, Bool.false_eq_true, ↓reduceIte]
theorem kit_ii : kitB "int" "int" = some true := by decide +kernel
theorem kit_ib : kitB "int" "bool" = some false := by decide +kernel
theorem kit_ll : kitB "list" "list" = some true := by decide +kernel
theorem kit_bb : kitB "bool" "bool" = some true := by decide +kernel
theorem kit_bi : kitB "bool" "int" = some true := by decide +kernel
theorem kit_ss : kitB "str" "str" = some true := by decide +kernel
theorem kit_tt : kitB "tuple" "tuple" = some true := by decide +kernel
theorem kit_tl : kitB "tuple" "list" = some false := by decide +kernel
theorem kit_lt : kitB "list" "tuple" = some false := by decide +kernel
theorem kit_ls : kitB "list" "str" = some false := by decide +kernel
theorem kit_li : kitB "list" "int" = some false := by decide +kernel
theorem kit_lb : kitB "list" "bool" = some false := by decide +kernel
theorem kit_is : kitB "int" "str" = some false := by decide +kernel
theorem kit_si : kitB "str" "int" = some false := by decide +kernel
theorem kit_sb : kitB "str" "bool" = some false := by decide +kernel
theorem kit_ti : kitB "tuple" "int" = some false := by decide +kernel
theorem kit_tb : kitB "tuple" "bool" = some false := by decide +kernel
theorem kit_ts : kitB "tuple" "str" = some false := by decide +kernel
end DL

set_option Elab.async false
set_option linter.all false
set_option maxRecDepth 100000
/-! Texts. -/
namespace DL
open PySem PySem.Spec PyProof.Rows L2
theorem rpDs_strs {K : PySem.W.Frag} {G : Hp} : ∀ ys : List Str, RpDs K G (ys.map D.str) (ys.map V.str)
  | [] => rfl
  | y :: ys => ⟨.str y, _, rfl, rfl, rpDs_strs ys⟩
def strsD : List D → Option (List Str)
  | [] => some []
  | .str s :: r => (strsD r).map (s :: ·)
  | _ => none
theorem strsD_eq : ∀ {ds : List D} {ss : List Str}, strsD ds = some ss → ds = ss.map D.str
  | [], ss, h => by cases h; rfl
  | .str s :: r, ss, h => by
    obtain ⟨ms, h1, h2⟩ := omap (show (strsD r).map (s :: ·) = some ss from h)
    subst h2
    rw [strsD_eq h1]; rfl
  | .non :: _, _, h => by cases h
  | .bl _ :: _, _, h => by cases h
  | .int _ :: _, _, h => by cases h
  | .lst _ :: _, _, h => by cases h
  | .tup _ :: _, _, h => by cases h
  | .dic _ :: _, _, h => by cases h
theorem strsD_map : ∀ ss : List Str, strsD (ss.map D.str) = some ss
  | [] => rfl
  | s :: ss => by show (strsD (ss.map D.str)).map (s :: ·) = _; rw [strsD_map ss]; rfl
theorem rpDs_strs_eq {K : PySem.W.Frag} {G : Hp} : ∀ {ss : List Str} {vs : List V}, RpDs K G (ss.map D.str) vs → vs = ss.map V.str
  | [], vs, h => h
  | n :: ns, vs, ⟨v, r, h1, h2, h3⟩ => by rw [h1, show v = _ from h2, rpDs_strs_eq h3]; rfl
/-- s.m(t) of two texts, a scalar -/
def eM1 (g : Str → Str → Option D) (fo fe : EF) : EF := fun env => (fo env).bind fun x => (fe x.2).bind fun y => match x.1, y.1 with
  | .p (.str a), .p (.str b) => (g a b).map fun d => (.p d, y.2)
  | _, _ => none
theorem eM1_some {g : Str → Str → Option D} {fo fe : EF} {t : T} {env env' : Env} (h : eM1 g fo fe env = some (t, env')) : ∃ a e1 b d, fo env = some (.p (.str a), e1) ∧ fe e1 = some (.p (.str b), env') ∧ g a b = some d ∧ t = .p d := by
  obtain ⟨⟨x, e1⟩, h1, h2⟩ := obind h
  obtain ⟨⟨y, e2⟩, h3, h4⟩ := obind h2
  dsimp only at h4
  split at h4
  · obtain ⟨d, h5, h6⟩ := omap h4
    cases h6
    exact ⟨_, e1, _, d, h1, h3, h5, rfl⟩
  · cases h4
section
variable {X : Cx} {o e a b : Expr} {to te ta tb : TE} {fo fe fa fb : EF} {apos pos : Pos}
theorem dt_m1 {id : String} {name : Str} {r : V → List V → Hp → VK → Prop} {g : Str → Str → Option D} (slot : Slot "str" name id) (ty : typeOf (.builtin id) = pure (.type "method_descriptor")) (rule : MtR X id r)
    (hr : ∀ a b d (H : Hp) (Q : VK), g a b = some d → (∀ u, (∀ (K : PySem.W.Frag) G, RpD K G d u) → Q u H) → r (.str a) [.str b] H Q) (ho : DT X o to fo) (he : DT X e te fe)
    (hs : starEach [e] X.env = [(false, eval e X.env)] := by rfl) (hbase : attributeBase o name X.env (eval o X.env) = eval o X.env := by rfl) (hline : (apos.endLine == pos.line) = true := by rfl) :
    DT X (.Call (.Attribute o name apos) [e] [] pos) (tM1 r to te) (eM1 g fo fe) := by
  refine ⟨pe_m1 slot ty rule ho.pe he.pe hs hbase hline, ?_⟩
  intro G0 H0 W H ts vs env σ t env' S h Q q
  obtain ⟨a, e1, b, d, h1, h2, h3, rfl⟩ := eM1_some h
  refine ho.ok _ _ _ _ _ _ _ _ _ _ S h1 _ fun v H1 s1 S1 => ?_
  have ev : v = .str a := S1.top
  refine ⟨⟨a, ev⟩, ?_⟩
  refine he.ok _ _ _ _ _ _ _ _ _ _ S1 h2 _ fun w H2 s2 S2 => ?_
  have ew : w = .str b := S2.top
  rw [ev, ew]
  exact hr a b d H2 Q h3 fun u hu => q u H2 (s1.trans s2) (S2.pop.pop.scal (hu X.K))
def gStarts (a b : Str) : Option D := some (.bl (Txt.startswith a b))
def gFind (a b : Str) : Option D := some (.int (Txt.find a b))
def gCount (a b : Str) : Option D := some (.int (Txt.count a b))
theorem dt_startswith (ho : DT X o to fo) (he : DT X e te fe) (hs : starEach [e] X.env = [(false, eval e X.env)] := by rfl) (hbase : attributeBase o "startswith" X.env (eval o X.env) = eval o X.env := by rfl) (hline : (apos.endLine == pos.line) = true := by rfl) :
    DT X (.Call (.Attribute o "startswith" apos) [e] [] pos) (tM1 (fun x xs H Q => ∃ a b, x = .str a ∧ xs = [.str b] ∧ Q (.bl (Txt.startswith a b)) H) to te) (eM1 gStarts fo fe) :=
  dt_m1 F.slot_str_startswith F.type_str_startswith mt_startswith (fun a b d H Q h q => ⟨a, b, rfl, rfl, by cases h; exact q _ fun _ _ => rfl⟩) ho he hs hbase hline
theorem dt_find (ho : DT X o to fo) (he : DT X e te fe) (hs : starEach [e] X.env = [(false, eval e X.env)] := by rfl) (hbase : attributeBase o "find" X.env (eval o X.env) = eval o X.env := by rfl) (hline : (apos.endLine == pos.line) = true := by rfl) :
    DT X (.Call (.Attribute o "find" apos) [e] [] pos) (tM1 (fun x xs H Q => ∃ a b, x = .str a ∧ xs = [.str b] ∧ Q (.int (Txt.find a b)) H) to te) (eM1 gFind fo fe) :=
  dt_m1 F.slot_str_find F.type_str_find mt_find (fun a b d H Q h q => ⟨a, b, rfl, rfl, by cases h; exact q _ fun _ _ => rfl⟩) ho he hs hbase hline
/-- s.split(t) -/
def eSplit (fo fe : EF) : EF := fun env => (fo env).bind fun x => (fe x.2).bind fun y => match x.1, y.1 with
  | .p (.str a), .p (.str b) => if (b.length == 0) = false ∧ a.length + 2 ≤ 16777216 then some (.lst (((Txt.split a b).map D.str).map T.p), y.2) else none
  | _, _ => none
theorem dt_split (ho : DT X o to fo) (he : DT X e te fe) (hs : starEach [e] X.env = [(false, eval e X.env)] := by rfl) (hbase : attributeBase o "split" X.env (eval o X.env) = eval o X.env := by rfl) (hline : (apos.endLine == pos.line) = true := by rfl) :
    DT X (.Call (.Attribute o "split" apos) [e] [] pos) (tM1 (fun x xs H Q => ∃ a b, x = .str a ∧ xs = [.str b] ∧ (b.length == 0) = false ∧ a.length + 2 ≤ sizeLine ∧ rNewStrs (Txt.split a b) H Q) to te) (eSplit fo fe) := by
  refine ⟨pe_split ho.pe he.pe hs hbase hline, ?_⟩
  intro G0 H0 W H ts vs env σ t env' S h Q q
  obtain ⟨⟨x, e1⟩, h1, h2⟩ := obind h
  obtain ⟨⟨y, e2⟩, h3, h4⟩ := obind h2
  dsimp only at h4
  split at h4
  · rename_i a b
    by_cases hc : (b.length == 0) = false ∧ a.length + 2 ≤ 16777216
    · rw [if_pos hc] at h4
      cases h4
      refine ho.ok _ _ _ _ _ _ _ _ _ _ S h1 _ fun v H1 s1 S1 => ?_
      have ev : v = .str a := S1.top
      refine ⟨⟨a, ev⟩, ?_⟩
      refine he.ok _ _ _ _ _ _ _ _ _ _ S1 h3 _ fun w H2 s2 S2 => ?_
      have ew : w = .str b := S2.top
      refine ⟨a, b, ev, by rw [ew], hc.1, by rw [sizeLine_eq]; exact hc.2, fun p hp => ?_⟩
      obtain ⟨G, ot, oe, s⟩ := S2.pop.pop
      exact q _ _ ((s1.trans s2).trans (same_upd hp)) (OkS.newL (by simp) (OkS.pushD s (rpDs_strs (Txt.split a b))) hp)
    · rw [if_neg hc] at h4; cases h4
  · cases h4
/-- s.join(list) -/
def eJoin (fo fe : EF) : EF := fun env => (fo env).bind fun x => (fe x.2).bind fun y => match x.1 with
  | .p (.str a) => (itemsT y.1).bind fun ds => (strsD ds).bind fun ys => if (ys.map (·.length)).sum + ys.length * a.length ≤ 16777216 then some (.p (.str (Txt.join a ys)), y.2) else none
  | _ => none
theorem dt_join (ho : DT X o to fo) (he : DV X e te fe) (hs : starEach [e] X.env = [(false, eval e X.env)] := by rfl) (hbase : attributeBase o "join" X.env (eval o X.env) = eval o X.env := by rfl) (hline : (apos.endLine == pos.line) = true := by rfl) :
    DT X (.Call (.Attribute o "join" apos) [e] [] pos) (tM1 (fun x xs H Q => ∃ a p, ∃ ys : List Str, x = .str a ∧ xs = [.ref p] ∧ (SqL X.K H p (ys.map V.str) ∨ SqT X.K H p (ys.map V.str)) ∧
      (ys.map (·.length)).sum + ys.length * a.length ≤ 16777216 ∧ Q (.str (Txt.join a ys)) H) to te) (eJoin fo fe) := by
  refine ⟨pe_join ho.pe he.pe hs hbase hline, ?_⟩
  intro G0 H0 W H ts vs env σ t env' S h Q q
  obtain ⟨⟨x, e1⟩, h1, h2⟩ := obind h
  obtain ⟨⟨y, e2⟩, h3, h4⟩ := obind h2
  dsimp only at h4
  split at h4
  · rename_i a
    obtain ⟨ds, h5, h6⟩ := obind h4
    obtain ⟨ys, h7, h8⟩ := obind h6
    by_cases hc : (ys.map (·.length)).sum + ys.length * a.length ≤ 16777216
    · rw [if_pos hc] at h8
      cases h8
      refine ho.ok _ _ _ _ _ _ _ _ _ _ S h1 _ fun v H1 s1 S1 => ?_
      have ev : v = .str a := S1.top
      refine ⟨⟨a, ev⟩, ?_⟩
      refine he.ok _ _ _ _ _ _ _ _ _ _ S1 h3 _ fun w H2 s2 S2 => ?_
      obtain ⟨p, xs, rfl, k1, k2, k3, S3⟩ := S2.items h5
      have ed := strsD_eq h7
      subst ed
      have ex : xs = ys.map V.str := by
        obtain ⟨G, ot, oe, s⟩ := S3
        obtain ⟨o1, o2, r1, _, _⟩ := s.tmp.split (by simpa using k3)
        exact rpDs_strs_eq (rpDs_of r1).1
      subst ex
      refine ⟨a, p, ys, ev, rfl, ?_, hc, q _ H2 (s1.trans s2) (S2.unview.pop.scal fun _ => rfl)⟩
      cases hk : isLT y with
      | true => exact .inl (k1 hk)
      | false => exact .inr (k2 hk)
    · rw [if_neg hc] at h8; cases h8
  · cases h4
end
/-! ### a text some times -/
def repS (z : Str) (n : Int) : Str := ⟨((List.replicate n.toNat z.cps.toList).flatten).toArray⟩
theorem foldl_arr (c : Array Nat) : ∀ (k : Nat) (acc : Array Nat), (List.replicate k c).foldl (· ++ ·) acc = acc ++ ((List.replicate k c.toList).flatten).toArray
  | 0, acc => by simp
  | k + 1, acc => by
    rw [List.replicate_succ, List.foldl_cons, foldl_arr c k, List.replicate_succ, List.flatten_cons]
    apply Array.toList_inj.mp
    simp
theorem op_mulS {X : Cx} : OpR X (binaryOp .Mult) (fun x y H Q => ∃ z n, x = .str z ∧ y = .int n ∧ -1000000000 < n ∧ n < 1000000000 ∧ z.length * n.toNat ≤ 16777216 ∧ Q (.str (repS z n)) H) := by
  intro pins s σ H x y v u Q I rx ry h
  obtain ⟨z, n, rfl, rfl, h1, h2, h3, q⟩ := h
  obtain ⟨t, rfl⟩ := rx
  obtain ⟨t', rfl⟩ := ry
  have fin : ∀ (r : Str) (tk : Tok), r = repS z n → EP X pins σ Q (.str r tk) { s with toks := s.toks + 1 } := fun r tk e => ⟨.str r, H, I.tok _, ⟨_, rfl⟩, by rw [e]; exact q⟩
  refine PySem.P.mul_str (by rw [decide_eq_false (by omega), decide_eq_false (by omega)]; rfl) (fun hn hz => ?_) (fun hn hz => ?_) ?_
  · intro z0
    have hn0 : 0 < n := by omega
    have hd : (2 ^ 63 - 1 : Int) / n < z.length := z0
    have hd2 : (2 ^ 63 - 1 : Int) < (z.length : Int) * n := by
      have := Int.lt_mul_of_ediv_lt hn0 hd
      exact this
    have h4 : ((z.length * n.toNat : Nat) : Int) = (z.length : Int) * n := by
      rw [Int.natCast_mul, Int.toNat_of_nonneg (by omega)]
    omega
  · exact decide_eq_false (by rw [sizeLine_eq]; omega)
  · by_cases hn : n < 1
    · rw [if_pos hn]
      refine ⟨by decide, ?_⟩
      have e : repS z n = Str.empty := by
        unfold repS
        rw [show n.toNat = 0 by omega]; rfl
      exact fin _ _ e.symm
    · rw [if_neg hn]
      by_cases hz : (n == 1 || z.length == 0) = true
      · rw [if_pos hz]
        refine ⟨.str z, H, I, ⟨t, rfl⟩, ?_⟩
        have e : repS z n = z := by
          apply TL.ext_tl
          show (List.replicate n.toNat z.cps.toList).flatten = z.cps.toList
          rw [Bool.or_eq_true] at hz
          rcases hz with hz | hz
          · have : n = 1 := by simpa using hz
            subst this
            simp
          · have : z.cps.toList = [] := by
              have := eq_of_beq hz
              rw [TL.len_tl] at this
              exact List.eq_nil_of_length_eq_zero this
            rw [this]; simp
        rw [e] at q; exact q
      · rw [if_neg hz]
        have e : (⟨(List.replicate n.toNat z.cps).foldl (· ++ ·) #[]⟩ : Str) = repS z n := by
          unfold repS
          rw [foldl_arr]
          simp
        rw [e]
        refine ⟨?_, fin _ _ rfl⟩
        rw [sizeLine_eq, TL.len_tl]
        show (List.replicate n.toNat z.cps.toList).flatten.length ≤ _
        rw [List.length_flatten, List.map_replicate, List.sum_replicate_nat]
        have : z.length = z.cps.toList.length := TL.len_tl z
        rw [this, Nat.mul_comm] at h3
        exact h3
def rMulA : R2 := fun x y H Q => (rI IntMulOk fun i j => .int (i * j)) x y H Q ∨ ∃ z n, x = .str z ∧ y = .int n ∧ -1000000000 < n ∧ n < 1000000000 ∧ z.length * n.toNat ≤ 16777216 ∧ Q (.str (repS z n)) H
theorem op_mulA {X : Cx} : OpR X (binaryOp .Mult) rMulA := OpR.or op_mulB op_mulS
def gMulA : D → D → Option D
  | .int i, .int j => gMul (.int i) (.int j)
  | .str z, .int n => if -1000000000 < n ∧ n < 1000000000 ∧ z.length * n.toNat ≤ 16777216 then some (.str (repS z n)) else none
  | _, _ => none
theorem sc_mulA : Sc2 rMulA gMulA := by
  intro a b d h K H v w Q hv hw q
  unfold gMulA at h
  split at h
  · exact .inl (sc_int (fun _ _ h => mulOk_ok h) _ _ d h K H v w Q hv hw q)
  · rename_i z n
    by_cases hc : -1000000000 < n ∧ n < 1000000000 ∧ z.length * n.toNat ≤ 16777216
    · rw [if_pos hc] at h; cases h
      exact .inr ⟨z, n, hv, hw, hc.1, hc.2.1, hc.2.2, q _ fun _ => rfl⟩
    · rw [if_neg hc] at h; cases h
  · cases h
theorem dt_mulA {X : Cx} {a b : Expr} {ta tb : TE} {fa fb : EF} {pos : Pos} (ha : DT X a ta fa) (hb : DT X b tb fb) : DT X (.BinOp a .Mult b pos) (tOp rMulA ta tb) (eOp gMulA fa fb) := dt_op op_mulA sc_mulA ha hb
theorem gMulA_i {i j : Int} : gMulA (.int i) (.int j) = gMul (.int i) (.int j) := rfl
/-- list + list -/
def rCatA : R2 := fun x y H Q => ∃ l b xs zs, x = .ref l ∧ y = .ref b ∧ Rd H l (.lst xs) ∧ Rd H b (.lst zs) ∧ xs.length + zs.length ≤ sizeLine ∧ ∀ p, H p = none → Q (.ref p) (upd H p (.lst (xs ++ zs)))
theorem op_catA {X : Cx} : OpR X (binaryOp .Add) rCatA := by
  intro pins s σ H x y v u Q I rx ry h
  obtain ⟨l, b, xs, zs, rfl, rfl, hH, hB, hz, q⟩ := h
  cases rx
  cases ry
  obtain ⟨z, its, n, r, e⟩ := (show ObjOk X.prog X.w H s.heap l (.lst xs) from hH.ok I.hok)
  obtain ⟨z2, its2, n2, r2, e2⟩ := (show ObjOk X.prog X.w H s.heap b (.lst zs) from hB.ok I.hok)
  have hl := r.length
  have hl2 := r2.length
  refine PySem.P.add_list e e2 ?_ (by rw [List.size_toArray, List.size_toArray]; omega)
  have ea : its.toArray ++ its2.toArray = (its ++ its2).toArray := by simp
  rw [ea]
  exact ⟨.ref _, _, I.lnew (t' := s.toks) (r.append r2) (by rw [List.length_append]; omega), rfl, q _ I.fresh⟩
theorem St0.rdL {K : PySem.W.Frag} {G0 H0 G H : Hp} {W : List (T × V)} {ts : List T} {vs : List V} {env : Env} {σ : St} {ot oe : List Addr} {t : T} {v : V} {ds : List D} (s : St0 K G0 H0 W G H ts vs env σ ot oe) (hq : (t, v) ∈ W) (h : itemsT t = some ds) (hl : isLT t = true) :
    ∃ a xs, v = .ref a ∧ Rd H a (.lst xs) ∧ RpDs K G ds xs := by
  obtain ⟨o, r⟩ := s.vw (t, v) hq
  cases t with
  | p d =>
    cases d with
    | lst ds' =>
      cases h
      obtain ⟨⟨a, xs, e1, e2, e3⟩, _⟩ := r
      exact ⟨a, xs, e1, Same.rd s.gh e2, e3⟩
    | tup ds' => cases hl
    | _ => cases h
  | lst us =>
    have e := allP_eq (show allP us = some ds from h)
    subst e
    obtain ⟨a, xs, o', e1, e2, e3, e4⟩ := r
    exact ⟨a, xs, e1, .inl e2, (rpDs_of e3).1⟩
  | tup us => cases hl
  | dic us => cases h
  | dit us => cases h
  | obj _ _ => cases h
  | box _ _ => cases h
  | al _ => cases h
/-- list + list -/
def eCat (fa fb : EF) : EF := fun env => (fa env).bind fun x => (fb x.2).bind fun y => (itemsT x.1).bind fun ds => (itemsT y.1).bind fun es =>
  if isLT x.1 = true ∧ isLT y.1 = true ∧ ds.length + es.length ≤ 16777216 then some (.lst ((ds ++ es).map T.p), y.2) else none
theorem dt_cat {X : Cx} {a b : Expr} {ta tb : TE} {fa fb : EF} {pos : Pos} (ha : DV X a ta fa) (hb : DV X b tb fb) : DT X (.BinOp a .Add b pos) (tOp rCatA ta tb) (eCat fa fb) := by
  refine ⟨pe_op op_catA ha.pe hb.pe, ?_⟩
  intro G0 H0 W H ts vs env σ t env' S g Q q
  obtain ⟨⟨x, e1⟩, h1, h2⟩ := obind g
  obtain ⟨⟨y, e2⟩, h3, h4⟩ := obind h2
  obtain ⟨ds, h5, h6⟩ := obind h4
  obtain ⟨es, h7, h8⟩ := obind h6
  by_cases hc : isLT x = true ∧ isLT y = true ∧ ds.length + es.length ≤ 16777216
  · rw [if_pos hc] at h8
    cases h8
    refine ha.ok _ _ _ _ _ _ _ _ _ _ S h1 _ fun v H1 s1 S1 => ?_
    refine hb.ok _ _ _ _ _ _ _ _ _ _ S1 h3 _ fun w H2 s2 S2 => ?_
    obtain ⟨G, ot, oe, s⟩ := S2
    obtain ⟨l, xs, e1, r1, d1⟩ := s.rdL (t := x) (v := v) (by simp) h5 hc.1
    obtain ⟨b, zs, e2, r2, d2⟩ := s.rdL (t := y) (v := w) (by simp) h7 hc.2.1
    refine ⟨l, b, xs, zs, e1, e2, r1, r2, by rw [sizeLine_eq, d1.len, d2.len]; exact hc.2.2, fun p hp => ?_⟩
    have dd := d1.append d2
    have s' : St0 X.K G0 H0 W G H2 ts vs _ σ ot oe := ⟨s.tmp, s.env, s.nd, s.fr, s.g0, s.gh, s.h0, s.nw, fun q hq => s.vw q (List.mem_cons_of_mem _ (List.mem_cons_of_mem _ hq))⟩
    exact q _ _ ((s1.trans s2).trans (same_upd hp)) (OkS.newL (by rw [List.length_map]; exact dd.len) (OkS.pushD s' dd) hp)
  · rw [if_neg hc] at h8; cases h8
/-- a fresh thing that nobody will change -/
def eFz (f : EF) : EF := fun env => (f env).map fun r => (.p r.1.toD, r.2)
theorem dt_fz {X : Cx} {e : Expr} {te : TE} {f : EF} (h : DT X e te f) : DT X e te (eFz f) := by
  refine ⟨h.pe, ?_⟩
  intro G0 H0 W H ts vs env σ t env' S g Q q
  obtain ⟨⟨x, e1⟩, h1, h2⟩ := omap g
  cases h2
  exact h.ok _ _ _ _ _ _ _ _ _ _ S h1 _ fun v H1 s1 S1 => q v H1 s1 S1.frz
/-- a def that is never asked -/
theorem fn_none {P : Program} {w : World} {K : PySem.W.Frag} {mg : Str → Option Value} {base : Heap} {k : Nat} {f : Addr} {fd : FuncData} {ps : List Str} {n : Nat} : FnOk P w K mg base CX0 k f fd ps (spD n (fun _ => none) K) :=
  ⟨fun _ _ _ _ ⟨_, _, _, _, h, _⟩ => (nomatch h), fun _ _ _ _ _ _ _ _ _ _ _ _ _ ⟨_, _, _, _, h, _⟩ => (nomatch h)⟩
/-- a name's own thing handed on, though what stands behind it still looks at it -/
def aMv (i : Nat) (r : AF) : AF := fun env => match env[i]? with
  | some (some _) => (r env).bind fun y => match y.2[i]? with
    | some (some t) => some (t :: y.1, y.2.set i none)
    | _ => none
  | _ => none
theorem da_mv {X : Cx} {es : List Expr} {tr : TA} {fr : AF} {pos : Pos} (i : Nat) {x : Str} (hr : DA X es tr fr) (hs : starEach (.Name x pos :: es) X.env = (false, eval (.Name x pos) X.env) :: starEach es X.env := by rfl) (hN : X.N[i]? = some x := by rfl) (hv : Vis X.env.scope x := by first | exact Or.inl rfl | exact Or.inr (Or.inl rfl) | exact Or.inr (Or.inr rfl)) (hd : (x == ("__debug__" : Str)) = false := by decide)
    (hcd : (x == ("__classdict__" : Str)) = false := by decide) : DA X (.Name x pos :: es) (tCons (tVar i) tr) (aMv i fr) := by
  refine ⟨pa_cons (pe_var hN hv hd hcd) hr.pa hs, ?_⟩
  intro G0 H0 W H ts vs env σ us env' S g Q q
  unfold aMv at g
  cases h : env[i]? with
  | none => rw [h] at g; cases g
  | some o =>
    rw [h] at g
    cases o with
    | none => cases g
    | some u =>
      obtain ⟨⟨ys, e1⟩, g1, g2⟩ := obind g
      obtain ⟨v, hv1, _⟩ := S.get h
      refine ⟨v, hv1, ?_⟩
      refine hr.ok _ _ _ _ _ _ _ _ _ _ S g1 _ fun ws H1 s1 hl S1 => ?_
      dsimp only at g2
      cases h2 : e1[i]? with
      | none => rw [h2] at g2; cases g2
      | some o2 =>
        rw [h2] at g2
        cases o2 with
        | none => cases g2
        | some t =>
          cases g2
          obtain ⟨v2, hv2, S2⟩ := S1.get h2
          rw [hv1] at hv2
          cases hv2
          exact q (v :: ws) H1 s1 (by simp [hl]) S2
/-- a constant of the module -/
theorem dt_kI {X : Cx} {x : Str} {n : Int} {pos : Pos} (hg : Gl X x) (hm : ∃ t, X.mg x = some (.int n t)) (hd : (x == ("__debug__" : Str)) = false := by decide) : DT X (.Name x pos) (tC (.int n)) (eC (.int n)) := by
  obtain ⟨t, hm⟩ := hm
  refine ⟨pe_glob hg hm ⟨t, rfl⟩ hd, ?_⟩
  intro G0 H0 W H ts vs env σ t env' S g Q q
  cases g
  exact q _ H (Same.refl _) (S.scal fun _ => rfl)
theorem dt_kS {X : Cx} {x : Str} {n : Str} {pos : Pos} (hg : Gl X x) (hm : ∃ t, X.mg x = some (.str n t)) (hd : (x == ("__debug__" : Str)) = false := by decide) : DT X (.Name x pos) (tC (.str n)) (eC (.str n)) := by
  obtain ⟨t, hm⟩ := hm
  refine ⟨pe_glob hg hm ⟨t, rfl⟩ hd, ?_⟩
  intro G0 H0 W H ts vs env σ t env' S g Q q
  cases g
  exact q _ H (Same.refl _) (S.scal fun _ => rfl)
/-! ### the end: the script is no object of the module -/
def Less (K K' : PySem.W.Frag) : Prop := ∀ (b : Addr) (o : Obj), K.lookup b = some o → ¬ (o.cls = .type "list" ∧ ∃ its n, o.data = .seq its n) → K'.lookup b = some o
section
variable {K K' : PySem.W.Frag}
theorem Less.refl (K : PySem.W.Frag) : Less K K := fun _ _ e _ => e
theorem Less.fn (L : Less K K') {f : Addr} {oc : Value} {od : Option Addr} {fd : FuncData} {sl : Array (Option Value)} (h : K.lookup f = some ⟨oc, od, .func fd, sl⟩) : K'.lookup f = some ⟨oc, od, .func fd, sl⟩ := L _ _ h fun ⟨_, _, _, e⟩ => nomatch e
theorem Less.code (L : Less K K') {cd : Value} {z : Str} (h : PySem.W.codeIn K cd z = true) : PySem.W.codeIn K' cd z = true := by
  unfold PySem.W.codeIn at h ⊢
  cases cd with
  | ref c =>
    dsimp only at h ⊢
    split at h
    · rename_i e
      rw [L _ _ e fun ⟨_, _, _, e⟩ => nomatch e]
      exact h
    · cases h
  | _ => cases h
theorem Less.keep (L : Less K K') {f : Addr} {oc : Value} {od : Option Addr} {fd : FuncData} {sl : Array (Option Value)} (h : K.lookup f = some ⟨oc, od, .func fd, sl⟩) : PySem.W.keepIn K' (.ref f) = true := by
  unfold PySem.W.keepIn
  dsimp only
  rw [L.fn h]
theorem Less.fun {x qual : Str} {st : Stmt} {f : Addr} {fd : FuncData} (L : Less K K') (F : Fun K x qual st f fd) : Fun K' x qual st f fd := by
  obtain ⟨oc, od, kV, doc, pm, an, cdv, ct, osl, e, lk, hcd⟩ := F.ex
  exact ⟨⟨oc, od, kV, doc, pm, an, cdv, ct, osl, e, L.fn lk, L.code hcd⟩, L.keep lk⟩
theorem look_filter (a : Addr) : ∀ (K : PySem.W.Frag) (b : Addr), List.lookup b (K.filter fun p => !(p.1 == a)) = if b = a then none else List.lookup b K
  | [], b => by simp
  | (c, o) :: K, b => by
    by_cases hc : c = a
    · subst hc
      rw [List.filter_cons_of_neg (by simp), look_filter c K b]
      by_cases hb : b = c
      · rw [if_pos hb, if_pos hb]
      · rw [if_neg hb, if_neg hb, List.lookup_cons, show (b == c) = false by simpa using hb]
    · rw [List.filter_cons_of_pos (by simpa using hc), List.lookup_cons, look_filter a K b, List.lookup_cons]
      by_cases hb : b = c
      · subst hb; simp [hc]
      · rw [show (b == c) = false by simpa using hb]
end
theorem walk_D {l : PySem.W.OpenLaw} {n k : Nat} {q : Program} {loose : List Str} {XP : (Str → Option Value) → Heap → Prop} {YP : World → Heap → Prop} {d : DefRec} {K : Params → PySem.W.Frag} {φ : List D → Option T} {x : Str}
    (hn : l.most = some n) (hn2 : n ≤ sizeLine) (hdf : d.params.defaults = []) (hr : Room k callerA) (hY : ∀ (w : World) (h : Heap), YP w h → (K w.params).In h)
    (F : ∀ (w : World) (mg : Str → Option Value) (fa : Addr) (h : Heap), (K w.params).In h → h.Ns mainGlobals mg → mg d.name = some (.ref fa) →
      ∃ fd : FuncData, (∀ (s : Shared) (u : Value), BindsTo s fd ⟨[u], []⟩ [(x, u)]) ∧ ∀ (K' : PySem.W.Frag) (base : Heap), Less (K w.params) K' → FnOk l.prog w K' mg base CX0 k fa fd [x] (spD 1 φ K'))
    (M : ∀ ns : List Int, ns.length ≤ n → (∀ z ∈ ns, Builtin.Int.intBits z ≤ 1048576) → φ [.lst (ns.map D.int)] = some (.p (.bl true))) :
    PySem.W.WalkO q loose XP YP l.row.toRowW d [] (fun f vs => PySem.call f vs) := by
  refine Att.attach_callB hn hdf fun w s₀ s₁ mg mb fa o pm cd doc a vs ns G Y ho hd hcd hmg hobj hints hlen hbits hg => ?_
  have KX := hY w _ Y
  obtain ⟨fd, hb, hF⟩ := F w mg fa _ KX G.T.g hmg
  have hM := M ns hlen hbits
  have go : ∀ K' : PySem.W.Frag, K'.In s₁.heap → List.lookup a K' = none → Less (K w.params) K' → codeAny (model l.prog w) callerA (.call (.ref fa) ⟨[.ref a], []⟩) (fun r s' => r = .ok (.ret (.bool true)) ∧ OldK s₁.heap s'.heap ∧ s'.os = s₁.os ∧ AllBare s'.gens) s₁ := fun K' KI hk L =>
    law_call (K := K') KI G.T.g G.T.b G.T.builtins G.T.nolimit hg hobj hints (Nat.le_trans hlen hn2) hr (fun base _ _ => hF K' base L) hb (fun H hO hS => by
      rcases hS with hS | ⟨o, its, n, e, _⟩
      · exact end_law hM hS
      · have e' : List.lookup a K' = some o := e
        rw [hk] at e'; cases e') fun _ _ _ h => h
  cases hk : List.lookup a (K w.params) with
  | none => exact go _ KX hk (Less.refl _)
  | some o1 =>
    have e1 := KX a o1 hk
    rw [hobj] at e1
    cases e1
    refine go ((K w.params).filter fun p => !(p.1 == a)) (fun b o e => ?_) ?_ fun b o e hn => ?_
    · have e' : List.lookup b ((K w.params).filter fun p => !(p.1 == a)) = some o := e
      rw [look_filter] at e'
      by_cases hb : b = a
      · rw [if_pos hb] at e'; cases e'
      · rw [if_neg hb] at e'; exact KX b o e'
    · rw [look_filter, if_pos rfl]
    · show List.lookup b ((K w.params).filter fun p => !(p.1 == a)) = some o
      rw [look_filter]
      by_cases hb : b = a
      · subst hb
        have e2 : List.lookup b (K w.params) = some o := e
        rw [hk] at e2; cases e2
        exact absurd ⟨rfl, _, _, rfl⟩ hn
      · rw [if_neg hb]; exact e
end DL

set_option Elab.async false
set_option linter.all false
set_option maxRecDepth 100000
/-! Dicts with int and text keys: an owned dict with frozen values (T.dic kvs, each value T.p), or a pure one. -/
namespace DL
open PySem PySem.Spec PyProof.Rows L2
section
variable {K : PySem.W.Frag} {G0 H0 H : Hp} {W : List (T × V)} {ts : List T} {vs : List V} {env : Env} {σ : St} {t : T} {v : V}
theorem OkS.newDic {p : Addr} (S : OkS K G0 H0 W H ts vs env σ) (hp : H p = none) : OkS K G0 H0 W (upd H p (.dK [])) (.dic [] :: ts) (.ref p :: vs) env σ := by
  obtain ⟨G, ot, oe, s⟩ := S
  have gp : G p = none := Same.none s.gh hp
  have ne : ∀ a u, H a = some u → a ≠ p := fun a u e z => by rw [z, hp] at e; cases e
  have k2 : ∀ a ∈ ot, upd H p (.dK []) a = H a := fun a ha => by
    obtain ⟨u, e, _⟩ := s.tmp.there _ a ha
    exact upd_ne (ne a u e)
  have k3 : ∀ a ∈ oe, upd H p (.dK []) a = H a := fun a ha => by
    obtain ⟨u, e, _⟩ := s.env.there _ a ha
    exact upd_ne (ne a u e)
  have all : ∀ a ∈ ot ++ oe, ∃ u, H a = some u := fun a ha => by
    rcases List.mem_append.mp ha with ha | ha
    · obtain ⟨u, e, _⟩ := s.tmp.there _ a ha; exact ⟨u, e⟩
    · obtain ⟨u, e, _⟩ := s.env.there _ a ha; exact ⟨u, e⟩
  refine ⟨G, p :: ot, oe, ⟨.ref p, vs, [p], ot, rfl, ⟨p, [], [], rfl, upd_same, ⟨rfl, rfl⟩, rfl⟩, s.tmp.mono (Same.refl _) _ k2, rfl⟩, s.env.mono (Same.refl _) _ k3, ?_, fun a ha => ?_, s.g0, fun b u e => ?_, fun b u e => ?_, s.nw, fun q hq => ?_⟩
  · rw [List.cons_append]
    refine List.nodup_cons.mpr ⟨fun z => ?_, s.nd⟩
    obtain ⟨u, e⟩ := all p z
    rw [hp] at e; cases e
  · rw [List.cons_append] at ha
    rcases List.mem_cons.mp ha with e | ha
    · subst e; exact ⟨gp, Same.none s.h0 hp⟩
    · exact s.fr a ha
  · rw [upd_ne (ne b u (s.gh b u e))]; exact s.gh b u e
  · rw [upd_ne (ne b u (s.h0 b u e))]; exact s.h0 b u e
  · obtain ⟨o, h⟩ := s.vw q hq
    refine ⟨o, h.mono (Same.refl _) _ fun a ha => ?_⟩
    obtain ⟨u, e, _⟩ := h.there _ a ha
    exact upd_ne (ne a u e)
/-- pairs of keys and frozen values -/
def RpKd (K : PySem.W.Frag) (G : Hp) (kvs : List (Key × D)) (xs : List (Key × V)) : Prop := RpKs K G kvs xs
def pairsT (kvs : List (Key × D)) : List (Key × T) := kvs.map fun kv => (kv.1, T.p kv.2)
theorem rpTk_of {G : Hp} : ∀ {kvs : List (Key × D)} {xs : List (Key × V)} {o : List Addr}, RpTk K G H (pairsT kvs) xs o → RpKs K G kvs xs ∧ o = []
  | [], _, _, h => h
  | (k, d) :: r, _, _, ⟨v, r', o1, o2, h1, h2, h3, h4⟩ => by
    obtain ⟨g1, g2⟩ := rpTk_of h3
    exact ⟨⟨v, r', h1, h2.1, g1⟩, by rw [h4, h2.2, g2]; rfl⟩
theorem rpTk_mk {G : Hp} : ∀ {kvs : List (Key × D)} {xs : List (Key × V)}, RpKs K G kvs xs → RpTk K G H (pairsT kvs) xs []
  | [], _, h => ⟨h, rfl⟩
  | (k, d) :: r, _, ⟨v, r', h1, h2, h3⟩ => ⟨v, r', [], [], h1, ⟨h2, rfl⟩, rpTk_mk h3, rfl⟩
def putD (kvs : List (Key × D)) (k : Key) (d : D) : List (Key × D) := if (kvs.any fun kv => decide (kv.1 = k)) = true then kvs.map (fun kv => if kv.1 = k then (kv.1, d) else kv) else kvs ++ [(k, d)]
def valD (kvs : List (Key × D)) (k : Key) : Option D := (kvs.find? fun kv => decide (kv.1 = k)).map (·.2)
theorem RpKs.any {G : Hp} (k : Key) : ∀ {kvs : List (Key × D)} {xs : List (Key × V)}, RpKs K G kvs xs → (xs.any fun kv => decide (kv.1 = k)) = kvs.any fun kv => decide (kv.1 = k)
  | [], xs, h => by rw [show xs = [] from h]; rfl
  | (j, d) :: r, _, ⟨v, r', h1, h2, h3⟩ => by rw [h1, List.any_cons, List.any_cons, RpKs.any k h3]
theorem RpKs.upd {G : Hp} (k : Key) {d : D} {v : V} (hv : RpD K G d v) : ∀ {kvs : List (Key × D)} {xs : List (Key × V)}, RpKs K G kvs xs → RpKs K G (kvs.map (fun kv => if kv.1 = k then (kv.1, d) else kv)) (xs.map (fun kv => if kv.1 = k then (kv.1, v) else kv))
  | [], xs, h => by rw [show xs = [] from h]; exact rfl
  | (j, e) :: r, _, ⟨w, r', h1, h2, h3⟩ => by
    subst h1
    rw [List.map_cons, List.map_cons]
    have ih := RpKs.upd k hv h3
    by_cases c : j = k
    · rw [if_pos c, if_pos c]; exact ⟨v, _, rfl, hv, ih⟩
    · rw [if_neg c, if_neg c]; exact ⟨w, _, rfl, h2, ih⟩
theorem RpKs.app {G : Hp} {k : Key} {d : D} {v : V} (hv : RpD K G d v) : ∀ {kvs : List (Key × D)} {xs : List (Key × V)}, RpKs K G kvs xs → RpKs K G (kvs ++ [(k, d)]) (xs ++ [(k, v)])
  | [], xs, h => by rw [show xs = [] from h]; exact ⟨v, [], rfl, hv, rfl⟩
  | (j, e) :: r, _, ⟨w, r', h1, h2, h3⟩ => by subst h1; exact ⟨w, _, rfl, h2, RpKs.app hv h3⟩
theorem RpKs.put {G : Hp} {k : Key} {d : D} {v : V} (hv : RpD K G d v) {kvs : List (Key × D)} {xs : List (Key × V)} (h : RpKs K G kvs xs) : RpKs K G (putD kvs k d) (putK xs k v) := by
  unfold putD putK
  rw [h.any k]
  split
  · exact h.upd k hv
  · exact h.app hv
theorem RpKs.val {G : Hp} (k : Key) : ∀ {kvs : List (Key × D)} {xs : List (Key × V)}, RpKs K G kvs xs → (valD kvs k = none → valV xs k = none) ∧ ∀ d, valD kvs k = some d → ∃ v, valV xs k = some v ∧ RpD K G d v
  | [], xs, h => by rw [show xs = [] from h]; exact ⟨fun _ => rfl, fun d h => (nomatch h)⟩
  | (j, e) :: r, _, ⟨w, r', h1, h2, h3⟩ => by
    subst h1
    by_cases c : j = k
    · have e1 : valD ((j, e) :: r) k = some e := by simp [valD, List.find?_cons, c]
      rw [e1, valV_pos (by exact c)]
      exact ⟨fun h => (nomatch h), fun d h => by cases h; exact ⟨w, rfl, h2⟩⟩
    · have e1 : valD ((j, e) :: r) k = valD r k := by simp [valD, List.find?_cons, c]
      rw [e1, valV_neg (by exact c)]
      exact RpKs.val k h3
theorem RpKs.length {G : Hp} : ∀ {kvs : List (Key × D)} {xs : List (Key × V)}, RpKs K G kvs xs → xs.length = kvs.length
  | [], xs, h => by rw [show xs = [] from h]; rfl
  | (j, e) :: r, _, ⟨w, r', h1, h2, h3⟩ => by subst h1; simp [RpKs.length h3]
/-- an owned dict written: what stood in it, and what stands then -/
theorem OkS.wrDic {kvs : List (Key × D)} {es : List T} {ws : List V} (S : OkS K G0 H0 W H (.dic (pairsT kvs) :: (es ++ ts)) (v :: (ws ++ vs)) env σ) (hw : ws.length = es.length) : ∃ a xs, v = .ref a ∧ H a = some (.dK xs) ∧ xs.length = kvs.length ∧
    ∀ (kvs' : List (Key × D)) (xs' : List (Key × V)), (∀ (G : Hp) (o2 : List Addr), RpKs K G kvs xs → RpTs K G H es ws o2 → RpKs K G kvs' xs') → OkS K G0 H0 [] (upd H a (.dK xs')) (.dic (pairsT kvs') :: ts) (.ref a :: vs) env σ := by
  obtain ⟨G, ot, oe, s⟩ := S
  obtain ⟨v0, r0, oa, ob, h1, ⟨a, xs, o1, e1, e2, e3, e4⟩, h3, h4⟩ := s.tmp
  cases h1
  obtain ⟨o2, o3, k1, k2, k3⟩ := h3.split hw
  obtain ⟨z1, z2⟩ := rpTk_of e3
  subst z2
  refine ⟨a, xs, e1, e2, z1.length, fun kvs' xs' hf => ?_⟩
  have f1 := hf G o2 z1 k1
  have pm : (ot ++ oe).Perm (a :: (o3 ++ oe) ++ o2) := by
    rw [h4, e4, k3]
    have q1 : (a :: ([] : List Addr) ++ (o2 ++ o3) ++ oe) = a :: (o2 ++ (o3 ++ oe)) := by simp
    rw [q1, List.cons_append]
    exact List.Perm.cons a List.perm_append_comm
  have nd := (List.nodup_append.mp (pm.nodup_iff.mp s.nd)).1
  have na : ∀ b ∈ o3 ++ oe, b ≠ a := fun b hb e => by
    subst e
    exact (List.nodup_cons.mp nd).1 hb
  have kp : ∀ b ∈ o3 ++ oe, upd H a (.dK xs') b = H b := fun b hb => upd_ne (na b hb)
  have fr : ∀ b ∈ a :: (o3 ++ oe), G b = none ∧ H0 b = none := fun b hb => s.fr b (pm.mem_iff.mpr (List.mem_append_left _ hb))
  refine ⟨G, a :: o3, oe, ⟨.ref a, vs, [a], o3, rfl, ⟨a, xs', [], rfl, upd_same, rpTk_mk f1, rfl⟩, k2.mono (Same.refl _) _ (fun b hb => kp b (by simp [hb])), rfl⟩, s.env.mono (Same.refl _) _ (fun b hb => kp b (by simp [hb])), by simpa using nd, fun b hb => fr b (by simpa using hb), s.g0, fun b u e => ?_, fun b u e => ?_, s.nw, fun q hq => by cases hq⟩
  · have : b ≠ a := fun z => by subst z; rw [(fr b (by simp)).1] at e; cases e
    rw [upd_ne this]; exact s.gh b u e
  · have : b ≠ a := fun z => by subst z; rw [(fr b (by simp)).2] at e; cases e
    rw [upd_ne this]; exact s.h0 b u e
end
/-- {} -/
def eDn : EF := fun env => some (.dic [], env)
theorem dt_dn {X : Cx} {pos : Pos} : DT X (.Dict [] [] pos) tDNewK eDn := by
  refine ⟨pe_dnewK, ?_⟩
  intro G0 H0 W H ts vs env σ t env' S g Q q
  cases g
  exact fun p hp => q _ _ (same_upd hp) (S.newDic hp)
/-- a dict's own pairs, where they are frozen -/
def frzK : List (Key × T) → Option (List (Key × D))
  | [] => some []
  | (k, .p d) :: r => (frzK r).map ((k, d) :: ·)
  | _ :: _ => none
theorem frzK_eq : ∀ {kvs : List (Key × T)} {ds : List (Key × D)}, frzK kvs = some ds → kvs = pairsT ds
  | [], ds, h => by cases h; rfl
  | (k, .p d) :: r, ds, h => by
    obtain ⟨es, h1, h2⟩ := omap (show (frzK r).map ((k, d) :: ·) = some ds from h)
    subst h2
    rw [frzK_eq h1]; rfl
  | (_, .lst _) :: _, _, h => by cases h
  | (_, .tup _) :: _, _, h => by cases h
  | (_, .dic _) :: _, _, h => by cases h
theorem frzK_pairs : ∀ ds : List (Key × D), frzK (pairsT ds) = some ds
  | [] => rfl
  | (k, d) :: r => by show (frzK (pairsT r)).map ((k, d) :: ·) = _; rw [frzK_pairs r]; rfl
def keyD : D → Option Key
  | .int i => some (.inl i)
  | .str s => some (.inr s)
  | _ => none
theorem keyD_rp {K : PySem.W.Frag} {G : Hp} {d : D} {k : Key} {v : V} (h : keyD d = some k) (r : RpD K G d v) : v = kV k := by
  cases d with
  | int i => cases h; exact r
  | str s => cases h; exact r
  | _ => cases h
/-- a name's own dict -/
def atD (env : Env) (i : Nat) : Option (List (Key × D)) := match env[i]? with
  | some (some (.dic kvs)) => frzK kvs
  | _ => none
theorem atD_eq {env : Env} {i : Nat} {ds : List (Key × D)} (h : atD env i = some ds) : env[i]? = some (some (.dic (pairsT ds))) := by
  unfold atD at h
  split at h
  · rename_i kvs e
    rw [e, frzK_eq h]
  · cases h
def keyT : T → Option Key
  | .p d => keyD d
  | _ => none
/-- d[k] = v, d a name, v frozen -/
def sPutD (i : Nat) (fk f : EF) : SF := fun env => (f env).bind fun r => (atD r.2 i).bind fun _ => (fk r.2).bind fun s => (keyT s.1).bind fun k => (atD s.2 i).bind fun kvs => match r.1 with
  | .p d => if kvs.length < 16000000 then some (.nx, s.2.set i (some (.dic (pairsT (putD kvs k d))))) else none
  | _ => none
section
variable {X : Cx} {e j : Expr} {te tj : TE} {f fj : EF} {pos npos ipos : Pos}
theorem ds_putD (i : Nat) {x : Str} (hu : X.A.units + 1 < cLine) (h : DT X e te f) (hj : DT X j tj fj) (hs : swapsWith e (some (.Subscript (.Name x npos) j ipos)) pos.line X.env = pure false := by rfl) (hN : X.N[i]? = some x := by rfl) (hv : Vis X.env.scope x := by first | exact Or.inl rfl | exact Or.inr (Or.inl rfl) | exact Or.inr (Or.inr rfl)) (hd : (x == ("__debug__" : Str)) = false := by decide)
    (hcd : (x == ("__classdict__" : Str)) = false := by decide) : DS X (.Assign [.Subscript (.Name x npos) j ipos] e pos) (sDPut (tVar i) tj te) (sPutD i fj f) [] := by
  refine ⟨ps_dput hu (pe_var hN hv hd hcd) hj.pe h.pe hs, ?_⟩
  intro G0 H0 H ts vs env σ fl env' S g D q
  obtain ⟨⟨t, e1⟩, g1, g2⟩ := obind g
  obtain ⟨us, g3, g4⟩ := obind g2
  have he1 := atD_eq g3
  obtain ⟨⟨y, e2⟩, g5, g6⟩ := obind g4
  obtain ⟨k, g7, g8⟩ := obind g6
  obtain ⟨kvs, g9, g10⟩ := obind g8
  have he2 := atD_eq g9
  dsimp only at g10
  cases t with
  | p d =>
    have g10 : (if kvs.length < 16000000 then some (Fl.nx, e2.set i (some (.dic (pairsT (putD kvs k d))))) else none) = some (fl, env') := g10
    by_cases hlen16 : kvs.length < 16000000
    · rw [if_pos hlen16] at g10
      cases g10
      cases y with
      | p kd =>
        have g7 : keyD kd = some k := g7
        refine h.ok _ _ _ _ _ _ _ _ _ _ S g1 _ fun w H1 s1 S1 => ?_
        obtain ⟨v, hv1, S2⟩ := S1.look he1
        refine ⟨v, hv1, ?_⟩
        refine hj.ok _ _ _ _ _ _ _ _ _ _ S2.unview g5 _ fun z H2 s2 S3 => ?_
        have ez : z = kV k := keyD_rp g7 S3.top
        obtain ⟨v2, hv2, S4⟩ := S3.pop.get he2
        rw [hv1] at hv2
        cases hv2
        obtain ⟨a, xs, k1, k2, k3, k4⟩ := OkS.wrDic (es := [.p d]) (ws := [w]) S4 rfl
        cases k1
        have hsz : xs.length < sizeLine := by rw [k3, sizeLine_eq]; omega
        have dp : DPut H2 a z w (upd H2 a (.dK (putK xs k w))) := by rw [ez]; exact DPut.k k2 hsz
        refine ⟨a, _, rfl, dp, ?_⟩
        have S5 := k4 (putD kvs k d) (putK xs k w) fun G o2 r1 r2 => by
          obtain ⟨v', r', p1, p2, q1, q2, q3, q4⟩ := r2
          cases q1
          exact r1.put q2.1
        have hlen : i < e2.length := (List.getElem?_eq_some_iff.mp he2).1
        have S6 := S5.put (i := i) (by simpa using hlen)
        rw [List.set_set, set_back hv1] at S6
        exact q _ _ S6 .rfl'
      | _ => cases g7
    · rw [if_neg hlen16] at g10; cases g10
  | _ => cases g10
end
/-! ### a dict looked at -/
def dicT : T → Option (List (Key × D))
  | .p (.dic kvs) => some kvs
  | .dic kvs => frzK kvs
  | _ => none
theorem St0.dic {K : PySem.W.Frag} {G0 H0 G H : Hp} {W : List (T × V)} {ts : List T} {vs : List V} {env : Env} {σ : St} {ot oe : List Addr} {t : T} {v : V} {ds : List (Key × D)} (s : St0 K G0 H0 W G H ts vs env σ ot oe) (hq : (t, v) ∈ W) (h : dicT t = some ds) :
    ∃ a xs, v = .ref a ∧ Rd H a (.dK xs) ∧ RpKs K G ds xs := by
  obtain ⟨o, r⟩ := s.vw (t, v) hq
  cases t with
  | p d =>
    cases d with
    | dic kvs =>
      cases h
      obtain ⟨⟨a, xs, e1, e2, e3⟩, _⟩ := r
      exact ⟨a, xs, e1, Same.rd s.gh e2, e3⟩
    | _ => cases h
  | dic kvs =>
    have e := frzK_eq (show frzK kvs = some ds from h)
    subst e
    obtain ⟨a, xs, o', e1, e2, e3, e4⟩ := r
    exact ⟨a, xs, e1, .inl e2, (rpTk_of e3).1⟩
  | _ => cases h
section
variable {X : Cx} {o i x : Expr} {to ti tx : TE} {fo fi fx : EF} {pos apos : Pos}
/-- d[k] -/
def eDix (fo fi : EF) : EF := fun env => (fo env).bind fun r => (fi r.2).bind fun s => (dicT r.1).bind fun ds => (keyT s.1).bind fun k => (valD ds k).map fun d => (.p d, s.2)
theorem dt_dix (hu : X.A.units + 1 < cLine) (ho : DV X o to fo) (hi : DT X i ti fi) (hs : NoSl i := by exact fun _ _ => rfl) : DT X (.Subscript o i pos) (tDGet to ti) (eDix fo fi) := by
  refine ⟨pe_dget hu ho.pe hi.pe hs, ?_⟩
  intro G0 H0 W H ts vs env σ t env' S g Q q
  obtain ⟨⟨y, e1⟩, g1, g2⟩ := obind g
  obtain ⟨⟨z, e2⟩, g3, g4⟩ := obind g2
  obtain ⟨ds, g5, g6⟩ := obind g4
  obtain ⟨k, g7, g8⟩ := obind g6
  obtain ⟨d, g9, g10⟩ := omap g8
  cases g10
  cases z with
  | p kd =>
    refine ho.ok _ _ _ _ _ _ _ _ _ _ S g1 _ fun v H1 s1 S1 => ?_
    refine hi.ok _ _ _ _ _ _ _ _ _ _ S1 g3 _ fun w H2 s2 S2 => ?_
    have ew : w = kV k := keyD_rp (show keyD kd = some k from g7) S2.top
    obtain ⟨G, ot, oe, s⟩ := S2.pop
    obtain ⟨a, xs, ev, ha, rr⟩ := s.dic (t := y) (v := v) (by simp) g5
    obtain ⟨u, u1, u2⟩ := (rr.val k).2 d g9
    refine ⟨a, u, ev, by rw [ew, ← u1]; exact (.inl ⟨_, _, ha, rfl, rfl⟩ : DGet _ _ _ _), ?_⟩
    have s' : St0 X.K G0 H0 W G H2 ts vs _ σ ot oe := ⟨s.tmp, s.env, s.nd, s.fr, s.g0, s.gh, s.h0, s.nw, fun q hq => s.vw q (List.mem_cons_of_mem _ hq)⟩
    have S3 := OkS.pushD (ds := [d]) (xs := [u]) s' ⟨u, [], rfl, u2, rfl⟩
    exact q u H2 (s1.trans s2) S3
  | _ => cases g7
/-- d.get(k, x) -/
def eDget (fo fi fx : EF) : EF := fun env => (fo env).bind fun r => (fi r.2).bind fun s => (fx s.2).bind fun u => (dicT r.1).bind fun ds => (keyT s.1).bind fun k => match u.1 with
  | .p z => some (.p ((valD ds k).getD z), u.2)
  | _ => none
theorem dt_dget {cpos : Pos} (hu : X.A.units + 1 < cLine) (ho : DV X o to fo) (hi : DT X i ti fi) (hx : DT X x tx fx) (m : M2 X o "get" apos i x cpos := by exact ⟨by rfl, by rfl, by rfl, by rfl⟩) : DT X (.Call (.Attribute o "get" apos) [i, x] [] cpos) (tDGet2 to ti tx) (eDget fo fi fx) := by
  refine ⟨pe_dget2 hu ho.pe hi.pe hx.pe m, ?_⟩
  intro G0 H0 W H ts vs env σ t env' S g Q q
  obtain ⟨⟨y, e1⟩, g1, g2⟩ := obind g
  obtain ⟨⟨z, e2⟩, g3, g4⟩ := obind g2
  obtain ⟨⟨u, e3⟩, g5, g6⟩ := obind g4
  obtain ⟨ds, g7, g8⟩ := obind g6
  obtain ⟨k, g9, g10⟩ := obind g8
  cases z with
  | p kd =>
    cases u with
    | p ud =>
      have g10 : some (T.p ((valD ds k).getD ud), e3) = some (t, env') := g10
      cases g10
      refine ho.ok _ _ _ _ _ _ _ _ _ _ S g1 _ fun v H1 s1 S1 => ?_
      have isd : ∃ a, v = .ref a ∧ IsD H1 a := by
        obtain ⟨G, ot, oe, s⟩ := S1
        obtain ⟨a, xs, ev, ha, _⟩ := s.dic (t := y) (v := v) (by simp) g7
        exact ⟨a, ev, .inl ⟨xs, ha⟩⟩
      obtain ⟨a0, ev0, hd⟩ := isd
      refine ⟨a0, ev0, hd, ?_⟩
      refine hi.ok _ _ _ _ _ _ _ _ _ _ S1 g3 _ fun w H2 s2 S2 => ?_
      have ew : w = kV k := keyD_rp (show keyD kd = some k from g9) S2.top
      refine hx.ok _ _ _ _ _ _ _ _ _ _ S2.pop g5 _ fun uu H3 s3 S3 => ?_
      obtain ⟨G, ot, oe, s⟩ := S3
      obtain ⟨a, xs, ev, ha, rr⟩ := s.dic (t := y) (v := v) (by simp) g7
      rw [ev0] at ev
      cases ev
      have s' : St0 X.K G0 H0 W G H3 (.p ud :: ts) (uu :: vs) _ σ ot oe := ⟨s.tmp, s.env, s.nd, s.fr, s.g0, s.gh, s.h0, s.nw, fun q hq => s.vw q (List.mem_cons_of_mem _ hq)⟩
      refine ⟨valV xs k, by rw [ew]; exact (.inl ⟨_, _, ha, rfl, rfl⟩ : DGet _ _ _ _), ?_⟩
      cases hv : valD ds k with
      | none =>
        rw [(rr.val k).1 hv]
        rw [hv] at q
        exact q uu H3 ((s1.trans s2).trans s3) ⟨G, ot, oe, s'⟩
      | some d =>
        obtain ⟨n, n1, n2⟩ := (rr.val k).2 d hv
        rw [n1]
        rw [hv] at q
        have S4 := OkS.pushD (ds := [d]) (xs := [n]) s' ⟨n, [], rfl, n2, rfl⟩
        have S5 : OkS X.K G0 H0 W H3 (.p ud :: .p d :: ts) (uu :: n :: vs) _ σ := OkS.mid (us := [.p d]) (ws := [n]) rfl S4
        exact q n H3 ((s1.trans s2).trans s3) S5.pop
    | _ => cases g10
  | _ => cases g9
/-- k in d -/
def eDin (b : Bool) (fi fo : EF) : EF := fun env => (fi env).bind fun s => (fo s.2).bind fun r => (dicT r.1).bind fun ds => (keyT s.1).bind fun k => some (.p (.bl (if b then (valD ds k).isSome else !(valD ds k).isSome)), r.2)
theorem ev_din (b : Bool) {td : TE} (htd : td = if b then tDIn ti to else tDNotIn ti to) (ho : EvV X.K to fo) (hi : EvV X.K ti fi) : EvT X.K td (eDin b fi fo) := by
  intro G0 H0 W H ts vs env σ t env' S g Q q
  obtain ⟨⟨z, e1⟩, g1, g2⟩ := obind g
  obtain ⟨⟨y, e2⟩, g3, g4⟩ := obind g2
  obtain ⟨ds, g5, g6⟩ := obind g4
  obtain ⟨k, g7, g8⟩ := obind g6
  cases g8
  cases z with
  | p kd =>
    have main : ti σ H fun w H1 => to σ H1 fun v H2 => ∃ a o, v = .ref a ∧ DGet H2 a w o ∧ Q (.bl (if b then o.isSome else !o.isSome)) H2 := by
      refine hi _ _ _ _ _ _ _ _ _ _ S g1 _ fun w H1 s1 S1 => ?_
      refine ho _ _ _ _ _ _ _ _ _ _ S1 g3 _ fun v H2 s2 S2 => ?_
      have ew : w = kV k := keyD_rp (show keyD kd = some k from g7) (S2.see (q := (.p kd, w)) (by simp))
      obtain ⟨G, ot, oe, s⟩ := S2
      obtain ⟨a, xs, ev, ha, rr⟩ := s.dic (t := y) (v := v) (by simp) g5
      have s' : St0 X.K G0 H0 W G H2 ts vs _ σ ot oe := ⟨s.tmp, s.env, s.nd, s.fr, s.g0, s.gh, s.h0, s.nw, fun q hq => s.vw q (List.mem_cons_of_mem _ (List.mem_cons_of_mem _ hq))⟩
      have same : (valV xs k).isSome = (valD ds k).isSome := by
        cases hv : valD ds k with
        | none => rw [(rr.val k).1 hv]; rfl
        | some d => obtain ⟨n, n1, _⟩ := (rr.val k).2 d hv; rw [n1]; rfl
      refine ⟨a, valV xs k, ev, by rw [ew]; exact (.inl ⟨_, _, ha, rfl, rfl⟩ : DGet _ _ _ _), ?_⟩
      rw [same]
      exact q _ H2 (s1.trans s2) (OkS.scal ⟨G, ot, oe, s'⟩ fun _ => rfl)
    subst htd
    cases b with
    | true => exact main
    | false => exact main
  | _ => cases g7
theorem dt_din (hu : X.A.units + 1 < cLine) (hi : DV X i ti fi) (ho : DV X o to fo) (hm : behindInMarks .In o = false := by with_unfolding_all rfl) : DT X (.Compare i [.In] [o] pos) (tDIn ti to) (eDin true fi fo) := ⟨pe_cmp (pc_din hu hi.pe ho.pe) hm, ev_din true rfl ho.ok hi.ok⟩
theorem dt_dnin (hu : X.A.units + 1 < cLine) (hi : DV X i ti fi) (ho : DV X o to fo) (hm : behindInMarks .NotIn o = false := by with_unfolding_all rfl) : DT X (.Compare i [.NotIn] [o] pos) (tDNotIn ti to) (eDin false fi fo) := ⟨pe_cmp (pc_dnotin hu hi.pe ho.pe) hm, ev_din false rfl ho.ok hi.ok⟩
end
end DL

set_option Elab.async false
set_option linter.all false
set_option maxRecDepth 100000
/-! A walk over a list whose items are handed on, to be changed in place. -/
namespace DL
open PySem PySem.Spec PyProof.Rows L2
section
variable {K : PySem.W.Frag} {G0 H0 H : Hp} {W : List (T × V)} {ts : List T} {vs : List V} {env : Env} {σ : St} {t : T} {v : V}
theorem OkS.shell {us : List T} (S : OkS K G0 H0 W H (.lst us :: ts) (v :: vs) env σ) : ∃ a xs G1, v = .ref a ∧ Gst G0 H0 G1 ∧ Same G1 H ∧ H a = some (.lst xs) ∧ G1 a = some (.lst xs) ∧ xs.length = us.length ∧ OkS K G1 H0 W H (us ++ ts) (xs ++ vs) env σ := by
  obtain ⟨G, ot, oe, s⟩ := S
  obtain ⟨v0, r0, oa, ob, h1, ⟨a, xs, o1, e1, e2, e3, e4⟩, h3, h4⟩ := s.tmp
  cases h1
  have nd := s.nd
  rw [h4, e4] at nd
  have nd' : (a :: (o1 ++ (ob ++ oe))).Nodup := by simpa using nd
  have na : ∀ b ∈ o1 ++ (ob ++ oe), b ≠ a := fun b hb e => by
    subst e
    exact (List.nodup_cons.mp nd').1 hb
  have fr : ∀ b ∈ a :: (o1 ++ (ob ++ oe)), G b = none ∧ H0 b = none := fun b hb => s.fr b (by rw [h4, e4]; simpa using hb)
  have ga := fr a (by simp)
  have sG : Same G (upd G a (.lst xs)) := fun b u e => by
    have : b ≠ a := fun z => by subst z; rw [ga.1] at e; cases e
    rw [upd_ne this]; exact e
  have sH : Same (upd G a (.lst xs)) H := fun b u e => by
    by_cases c : b = a
    · subst c; rw [upd_same] at e; cases e; exact e2
    · rw [upd_ne c] at e; exact s.gh b u e
  have k0 : ∀ o : List Addr, ∀ b ∈ o, H b = H b := fun _ _ _ => rfl
  have t1 : RpTs K (upd G a (.lst xs)) H us xs o1 := e3.mono sG _ (k0 _)
  have t2 : RpTs K (upd G a (.lst xs)) H ts vs ob := h3.mono sG _ (k0 _)
  refine ⟨a, xs, upd G a (.lst xs), e1, ⟨s.g0.trans sG, fun b o e => ?_⟩, sH, e2, upd_same, e3.len, upd G a (.lst xs), o1 ++ ob, oe, t1.append t2, s.env.mono sG _ (k0 _), by simpa using (List.nodup_cons.mp nd').2, fun b hb => ?_, Same.refl _, sH, s.h0, fun b o e => .inl (by rw [e]; simp), fun q hq => ?_⟩
  · by_cases c : b = a
    · subst c; exact .inr (.inl ga.2)
    · rw [upd_ne c] at e; exact s.nw b o e
  · have hb' : b ∈ o1 ++ (ob ++ oe) := by simpa using hb
    have := fr b (List.mem_cons_of_mem _ hb')
    exact ⟨by rw [upd_ne (na b hb')]; exact this.1, this.2⟩
  · obtain ⟨o, h⟩ := s.vw q hq
    exact ⟨o, h.mono sG _ (k0 _)⟩
theorem OkS.pops : ∀ {us : List T} {ws : List V}, ws.length = us.length → OkS K G0 H0 W H (us ++ ts) (ws ++ vs) env σ → OkS K G0 H0 W H ts vs env σ
  | [], [], _, S => S
  | u :: us, w :: ws, hl, S => OkS.pops (us := us) (ws := ws) (by simpa using hl) (OkS.pop S)
  | [], _ :: _, hl, _ => by simp at hl
  | _ :: _, [], hl, _ => by simp at hl
theorem OkS.pops1 : ∀ {us : List T} {ws : List V}, ws.length = us.length → OkS K G0 H0 W H (t :: (us ++ ts)) (v :: (ws ++ vs)) env σ → OkS K G0 H0 W H (t :: ts) (v :: vs) env σ
  | [], [], _, S => S
  | u :: us, w :: ws, hl, S => OkS.pops1 (us := us) (ws := ws) (by simpa using hl) (OkS.pop (OkS.mid (us := [t]) (ws := [v]) rfl S))
  | [], _ :: _, hl, _ => by simp at hl
  | _ :: _, [], hl, _ => by simp at hl
end
def loopT (G : GF) (body : SF) : List T → Env → Option (Fl × Env)
  | [], env => some (.nx, env)
  | t :: ts, env => (G t env).bind fun e1 => (body e1).bind fun r => match r.1 with
    | .nx => loopT G body ts r.2
    | .ct => loopT G body ts r.2
    | .bk => some (.nx, r.2)
    | .rt t => some (.rt t, r.2)
def sForM (f : EF) (G : GF) (body : SF) : SF := fun env => (f env).bind fun r => match r.1 with
  | .lst us => loopT G body us r.2
  | _ => none
theorem ds_forM {X : Cx} {tg iter : Expr} {body : List Stmt} {te : TE} {f : EF} {g : TG} {G : GF} {tb : TS} {F : SF} {pos : Pos} {sl sl2 : List Nat} (hp : PassesOwn (model X.prog X.w) X.A X.env X.xe) (hc : X.calm = true) (h : DT X iter te f) (hg : DG X tg g G sl) (hb : DSs X body tb F sl2)
    (hs : ∀ x, foldedSetIterable iter X.env x = pure x := by intro _; rfl) : DS X (.For tg iter body [] pos) (tFor (iList X.K te) g tb) (sForM f G F) (sl ++ sl2) := by
  refine ⟨ps_for hp hc (pi_list h.pe) hg.pg hb.ps hs, ?_⟩
  intro G0 H0 H ts vs env σ fl env' S e D q
  obtain ⟨⟨t, e1⟩, g1, g2⟩ := obind e
  cases t with
  | lst us =>
    have g2 : loopT G F us e1 = some (fl, env') := g2
    refine h.ok _ _ _ _ _ _ _ _ _ _ S g1 _ fun v H1 s1 S1 => ?_
    obtain ⟨a, xs, G1, ev, gst, sG, hH, hG, hlen, S2⟩ := S1.shell
    refine ⟨a, ev, ⟨xs, .inl (.inl hH)⟩, ?_⟩
    refine ⟨fun i m σ2 H => m = us.length - i ∧ i ≤ us.length ∧ Dif (sl ++ sl2) σ σ2 ∧ ∃ env, OkS X.K G1 H0 [] H (us.drop i ++ ts) (xs.drop i ++ vs) env σ2 ∧ loopT G F (us.drop i) env = some (fl, env'), ⟨us.length, by simp, Nat.zero_le _, .rfl', e1, S2, by simpa using g2⟩, ?_⟩
    rintro i m σ2 H2 ⟨rfl, hle, df, env2, S3, hl⟩
    have hq2 : Rd H2 a (.lst xs) := .inl (S3.same _ _ hG)
    by_cases hlt : i < us.length
    · have hx : i < xs.length := by omega
      refine .inr ⟨⟨xs, xs[i], .inl hq2, List.getElem?_eq_getElem hx⟩, fun σ' H' => i + 1 ≤ us.length ∧ Dif (sl ++ sl2) σ σ' ∧ ∃ env, OkS X.K G1 H0 [] H' (us.drop (i + 1) ++ ts) (xs.drop (i + 1) ++ vs) env σ' ∧ loopT G F (us.drop (i + 1)) env = some (fl, env'), fun σ' H' ⟨h1, h2⟩ => ⟨us.length - (i + 1), by omega, rfl, h1, h2⟩, fun y H3 hy => ?_⟩
      obtain ⟨eH, hy⟩ := hy
      subst eH
      have ey : xs[i] = y := by
        have := hy xs (.inl hq2)
        rw [List.getElem?_eq_getElem hx] at this
        exact Option.some.inj this
      subst ey
      rw [List.drop_eq_getElem_cons hlt, List.drop_eq_getElem_cons hx, List.cons_append, List.cons_append] at S3
      rw [List.drop_eq_getElem_cons hlt] at hl
      have hl2 : (xs.drop (i + 1)).length = (us.drop (i + 1)).length := by simp [hlen]
      obtain ⟨e2, l1, l2⟩ := obind hl
      obtain ⟨⟨fl2, e3⟩, l3, l4⟩ := obind l2
      refine hg.ok _ _ _ _ _ _ _ _ _ _ _ S3 l1 _ fun σ' S' f1 => ?_
      refine hb.ok _ _ _ _ _ _ _ _ _ S' l3 _ ?_
      cases fl2 with
      | nx => exact fun H' σ4 S4 f2 => ⟨hlt, df.two (f1.tr f2), e3, S4, l4⟩
      | ct => exact fun H' σ4 S4 f2 => ⟨hlt, df.two (f1.tr f2), e3, S4, l4⟩
      | bk => cases l4; exact fun H' σ4 S4 f2 => q H' σ4 ((OkS.pops hl2 S4).back gst) (df.two (f1.tr f2))
      | rt t => cases l4; exact fun v H' σ' S4 f2 => q v H' σ' ((OkS.pops1 hl2 S4).back gst) (df.two (f1.tr f2))
    · have hi' : i = us.length := by omega
      subst hi'
      rw [List.drop_length] at hl
      cases hl
      have S4 := OkS.pops (us := us.drop us.length) (ws := xs.drop us.length) (by simp [hlen]) S3
      exact .inl ⟨⟨xs, .inl hq2, by rw [hlen]; exact Nat.le_refl _⟩, q H2 σ2 (S4.back gst) df⟩
  | _ => cases g2
/-- s.m() of a text -/
def eM0 (g : Str → Option D) (fo : EF) : EF := fun env => (fo env).bind fun x => match x.1 with
  | .p (.str a) => (g a).map fun d => (.p d, x.2)
  | _ => none
def gRstrip (a : Str) : Option D := if a.length ≤ 16777216 then some (.str (Txt.rstrip a)) else none
section
variable {X : Cx} {o : Expr} {to : TE} {fo : EF} {apos pos : Pos}
theorem dt_rstrip (ho : DT X o to fo) (hbase : attributeBase o "rstrip" X.env (eval o X.env) = eval o X.env := by rfl) (hline : (apos.endLine == pos.line) = true := by rfl) :
    DT X (.Call (.Attribute o "rstrip" apos) [] [] pos) (tM0 (fun x xs H Q => ∃ a, x = .str a ∧ xs = [] ∧ a.length ≤ sizeLine ∧ Q (.str (Txt.rstrip a)) H) to) (eM0 gRstrip fo) := by
  refine ⟨pe_m0 F.slot_str_rstrip F.type_str_rstrip mt_rstrip ho.pe hbase hline, ?_⟩
  intro G0 H0 W H ts vs env σ t env' S g Q q
  obtain ⟨⟨x, e1⟩, h1, h2⟩ := obind g
  dsimp only at h2
  split at h2
  · rename_i a
    obtain ⟨d, h3, h4⟩ := omap h2
    cases h4
    unfold gRstrip at h3
    by_cases hc : a.length ≤ 16777216
    · rw [if_pos hc] at h3
      cases h3
      refine ho.ok _ _ _ _ _ _ _ _ _ _ S h1 _ fun v H1 s1 S1 => ?_
      have ev : v = .str a := S1.top
      exact ⟨⟨a, ev⟩, a, ev, rfl, by rw [sizeLine_eq]; exact hc, q _ H1 s1 (S1.pop.scal fun _ => rfl)⟩
    · rw [if_neg hc] at h3; cases h3
  · cases h2
end
/-- range with a step -/
def rng3D (lo c : Int) (n : Nat) : List D := (List.range n).map fun (k : Nat) => D.int (lo + (k : Nat) * c)
theorem itOk_rc {K : PySem.W.Frag} {G1 : Hp} {lo c : Int} {n : Nat} : ItOk K G1 (Itc lo c n) (rng3D lo c n) where
  go := fun i H s hi => by show i < n; simpa [rng3D] using hi
  stop := fun H s => by show n ≤ _; simp [rng3D]
  yld := fun i H x H' d s hd y => by
    obtain ⟨e, y⟩ := y
    refine .inl ⟨e, ?_⟩
    by_cases hi : i < n
    · simp [rng3D, hi] at hd
      subst hd
      exact y
    · simp [rng3D, hi] at hd
def iR3 (f : AF) : IF := fun env => (f env).bind fun r => match r.1 with
  | [.p (.int i), .p (.int j), .p (.int c)] => if c ≠ 0 ∧ c.natAbs < 1073741824 ∧ Builtin.Range.small i j c = true ∧ Builtin.Range.rangeSize i j c = ((Builtin.Range.rangeSize i j c).toNat : Int) then some (rng3D i c (Builtin.Range.rangeSize i j c).toNat, r.2) else none
  | _ => none
theorem di_range3 {X : Cx} {tg a b c : Expr} {ta : TA} {f : AF} {p pos : Pos} (hg : Gl X "range") (hm : X.mg "range" = none) (h : DA X [a, b, c] ta f) (hs : starEach [a, b, c] X.env = (false, eval a X.env) :: starEach [b, c] X.env := by rfl) (hpl : (backTo pos (starEach [b, c] X.env)).any (·.1) = false := by rfl) :
    DI X tg (.Call (.Name "range" p) [a, b, c] [] pos) (iRng3 ta) (iR3 f) := by
  refine ⟨pi_range3 hg hm h.pa hs hpl, ?_⟩
  intro G0 H0 W H ts vs env σ ds env' S g R r
  obtain ⟨⟨us, e1⟩, g1, g2⟩ := obind g
  refine h.ok _ _ _ _ _ _ _ _ _ _ S g1 _ fun ws H1 s1 hl S1 => ?_
  dsimp only at g2
  split at g2
  · rename_i i j k
    split at g2
    · rename_i hj
      cases g2
      match ws, hl with
      | [w1, w2, w3], _ =>
        have e1 : w1 = .int i := S1.top
        have e2 : w2 = .int j := (show OkS X.K G0 H0 W H1 (.p (.int j) :: (.p (.int k) :: ts)) (w2 :: (w3 :: vs)) _ σ from S1.pop).top
        have e3 : w3 = .int k := (show OkS X.K G0 H0 W H1 (.p (.int k) :: ts) (w3 :: vs) _ σ from S1.pop.pop).top
        obtain ⟨G1, gst, sG, S2⟩ := OkS.fix (show OkS X.K G0 H0 W H1 ts vs _ σ from S1.pop.pop.pop)
        exact ⟨i, j, k, _, by rw [e1, e2, e3], hj, r _ _ G1 s1 gst itOk_rc S2⟩
    · cases g2
  · cases g2
end DL

set_option Elab.async false
set_option linter.all false
set_option maxRecDepth 100000
/-! The combinators once more without binders: each step of a walk by its equation (for simp: nothing is looked at before its turn). -/
namespace DL
open PySem PySem.Spec PyProof.Rows L2
variable {env e : Env} {i j n k : Nat} {t u : T} {ts us : List T} {d a b : D} {ds es : List D} {fa fb fc f : EF} {r : AF} {c c2 : CF} {F1 F2 F : SF} {G : GF} {gs : GsF} {z w : Int}
theorem bindS {α β : Type} {x : α} {g : α → Option β} : (some x).bind g = g x := id rfl
theorem mapS {α β : Type} {x : α} {g : α → β} : Option.map g (some x) = some (g x) := id rfl
-- leaves
def kV (env : Env) (i : Nat) : Option (Option T) → Option (T × Env)
  | some (some (.p d)) => some (.p d, env)
  | some (some t) => some (.p t.toD, env.set i (some (.p t.toD)))
  | _ => none
theorem eV_q : eV i env = kV env i env[i]? := id rfl
theorem kV_p : kV env i (some (some (.p d))) = some (.p d, env) := id rfl
theorem kV_l : kV env i (some (some (.lst ts))) = some (.p (T.lst ts).toD, env.set i (some (.p (T.lst ts).toD))) := id rfl
theorem kV_t : kV env i (some (some (.tup ts))) = some (.p (T.tup ts).toD, env.set i (some (.p (T.tup ts).toD))) := id rfl
def kM (env : Env) (i : Nat) : Option (Option T) → Option (T × Env)
  | some (some t) => some (t, env.set i none)
  | _ => none
theorem eM_q : eM i env = kM env i env[i]? := id rfl
theorem kM_s : kM env i (some (some t)) = some (t, env.set i none) := id rfl
def kB (env : Env) : Option (Option T) → Option (T × Env)
  | some (some t) => some (t, env)
  | _ => none
theorem eB_q : eB i env = kB env env[i]? := id rfl
theorem kB_s : kB env (some (some t)) = some (t, env) := id rfl
theorem eC_q : eC d env = some (.p d, env) := id rfl
def kW : T × Env → Option (T × Env)
  | (.p d, e) => some (.p d, e)
  | _ => none
theorem eW_q : eW f env = (f env).bind kW := by
  unfold eW; congr 1; funext r; obtain ⟨t, e⟩ := r; cases t <;> rfl
theorem kW_p : kW (.p d, e) = some (.p d, e) := id rfl
theorem aN_q : aN env = some ([], env) := id rfl
def kCons (t : T) (y : List T × Env) : List T × Env := (t :: y.1, y.2)
def kAC (r : AF) (x : T × Env) : Option (List T × Env) := (r x.2).map (kCons x.1)
theorem aC_q : aC f r env = (f env).bind (kAC r) := id rfl
theorem kAC_q : kAC r (t, e) = (r e).map (kCons t) := id rfl
theorem kCons_q : kCons t (ts, e) = (t :: ts, e) := id rfl
def kMv3 (ts : List T) (e : Env) (i : Nat) : Option (Option T) → Option (List T × Env)
  | some (some t) => some (t :: ts, e.set i none)
  | _ => none
def kMv2 (i : Nat) (y : List T × Env) : Option (List T × Env) := kMv3 y.1 y.2 i y.2[i]?
def kMv (i : Nat) (r : AF) (env : Env) : Option (Option T) → Option (List T × Env)
  | some (some _) => (r env).bind (kMv2 i)
  | _ => none
theorem aMv_q : aMv i r env = kMv i r env env[i]? := id rfl
theorem kMv_s : kMv i r env (some (some t)) = (r env).bind (kMv2 i) := id rfl
theorem kMv2_q : kMv2 i (ts, e) = kMv3 ts e i e[i]? := id rfl
theorem kMv3_s : kMv3 ts e i (some (some t)) = some (t :: ts, e.set i none) := id rfl
def kL (x : List T × Env) : Option (T × Env) := if x.1.length ≤ 1000 then some (.lst x.1, x.2) else none
theorem eL_q : eL r env = (r env).bind kL := id rfl
theorem kL_q : kL (ts, e) = if ts.length ≤ 1000 then some (.lst ts, e) else none := id rfl
def kT (x : List T × Env) : Option (T × Env) := if x.1.length ≤ 1000 then some (mkTup x.1, x.2) else none
theorem eT_q : eT r env = (r env).bind kT := id rfl
theorem kT_q : kT (ts, e) = if ts.length ≤ 1000 then some (mkTup ts, e) else none := id rfl
-- ends of steps
def kP (e : Env) (d : D) : T × Env := (.p d, e)
theorem kP_q : kP e d = (.p d, e) := id rfl
def kBl (e : Env) (c : Bool) : T × Env := (.p (.bl c), e)
theorem kBl_q {c : Bool} : kBl e c = (.p (.bl c), e) := id rfl
def kT2 (e : Env) (t : T) : T × Env := (t, e)
theorem kT2_q : kT2 e t = (t, e) := id rfl
def kFz (r : T × Env) : T × Env := (.p r.1.toD, r.2)
theorem eFz_q : eFz f env = (f env).map kFz := id rfl
theorem kFz_q : kFz (t, e) = (.p t.toD, e) := id rfl
-- operators
def kOp2 (g : D → D → Option D) (x : T) : T × Env → Option (T × Env)
  | (.p b, e) => match x with | .p a => (g a b).map (kP e) | _ => none
  | _ => none
def kOp1 (g : D → D → Option D) (fb : EF) (x : T × Env) : Option (T × Env) := (fb x.2).bind (kOp2 g x.1)
theorem eOp_q {g : D → D → Option D} : eOp g fa fb env = (fa env).bind (kOp1 g fb) := by
  unfold eOp; congr 1; funext x; unfold kOp1; congr 1; funext y; obtain ⟨y, e⟩ := y; obtain ⟨x, e'⟩ := x; cases x <;> cases y <;> rfl
theorem kOp1_q {g : D → D → Option D} : kOp1 g fb (t, e) = (fb e).bind (kOp2 g t) := id rfl
theorem kOp2_q {g : D → D → Option D} : kOp2 g (.p a) (.p b, e) = (g a b).map (kP e) := id rfl
def kCm2 (g : D → D → Option Bool) (x : T) (y : T × Env) : Option (T × Env) := (g x.toD y.1.toD).map (kBl y.2)
def kCm1 (g : D → D → Option Bool) (fb : EF) (x : T × Env) : Option (T × Env) := (fb x.2).bind (kCm2 g x.1)
theorem eCmp_q {g : D → D → Option Bool} : eCmp g fa fb env = (fa env).bind (kCm1 g fb) := id rfl
theorem kCm1_q {g : D → D → Option Bool} : kCm1 g fb (t, e) = (fb e).bind (kCm2 g t) := id rfl
theorem kCm2_q {g : D → D → Option Bool} : kCm2 g t (u, e) = (g t.toD u.toD).map (kBl e) := id rfl
def kNeg : T × Env → Option (T × Env)
  | (.p (.int i), e) => some (.p (.int (-i)), e)
  | _ => none
theorem eNeg_q : eNeg f env = (f env).bind kNeg := by
  unfold eNeg; congr 1; funext x; obtain ⟨x, e⟩ := x; cases x with
  | p d => cases d <;> rfl
  | _ => rfl
theorem kNeg_q : kNeg (.p (.int z), e) = some (.p (.int (-z)), e) := id rfl
def kCh3 (g : Int → Int → Bool) (j : Int) : T × Env → Option (T × Env)
  | (.p (.int k), e) => some (.p (.bl (g j k)), e)
  | _ => none
def kCh2 (f g : Int → Int → Bool) (fc : EF) (x : T) (y : T × Env) : Option (T × Env) := match x, y.1 with
  | .p (.int i), .p (.int j) => if f i j then (fc y.2).bind (kCh3 g j) else some (.p (.bl false), y.2)
  | _, _ => none
def kCh1 (f g : Int → Int → Bool) (fb fc : EF) (x : T × Env) : Option (T × Env) := (fb x.2).bind (kCh2 f g fc x.1)
theorem eChain_q {f g : Int → Int → Bool} : eChain f g fa fb fc env = (fa env).bind (kCh1 f g fb fc) := by
  unfold eChain; congr 1; funext x; unfold kCh1; congr 1; funext y
  obtain ⟨x, ex⟩ := x; obtain ⟨y, ey⟩ := y
  cases x with
  | p d => cases d with
    | int i => cases y with
      | p d2 => cases d2 with
        | int j =>
          show (if f i j = true then _ else _) = (if f i j = true then _ else _)
          congr 1; congr 1; funext z; obtain ⟨z, e⟩ := z; cases z with
            | p d => cases d <;> rfl
            | _ => rfl
        | _ => rfl
      | _ => rfl
    | _ => rfl
  | _ => rfl
theorem kCh1_q {f g : Int → Int → Bool} : kCh1 f g fb fc (t, e) = (fb e).bind (kCh2 f g fc t) := id rfl
theorem kCh2_q {f g : Int → Int → Bool} : kCh2 f g fc (.p (.int z)) (.p (.int w), e) = if f z w then (fc e).bind (kCh3 g w) else some (.p (.bl false), e) := id rfl
theorem kCh3_q {g : Int → Int → Bool} : kCh3 g z (.p (.int w), e) = some (.p (.bl (g z w)), e) := id rfl
-- tests
def kcT : T × Env → Option (Bool × Env)
  | (.p (.bl b), e) => some (b, e)
  | _ => none
theorem cT_q : cT f env = (f env).bind kcT := by
  unfold cT; congr 1; funext x; obtain ⟨x, e⟩ := x; cases x with
  | p d => cases d <;> rfl
  | _ => rfl
theorem kcT_q {b : Bool} : kcT (.p (.bl b), e) = some (b, e) := id rfl
def kNot (r : Bool × Env) : Bool × Env := (!r.1, r.2)
theorem cNot_q : cNot c env = (c env).map kNot := id rfl
theorem kNot_q {b : Bool} : kNot (b, e) = (!b, e) := id rfl
def kcAnd (d : CF) (r : Bool × Env) : Option (Bool × Env) := if r.1 then d r.2 else some (false, r.2)
theorem cAnd_q : cAnd c c2 env = (c env).bind (kcAnd c2) := id rfl
theorem kcAnd_t : kcAnd c (true, e) = c e := id rfl
theorem kcAnd_f : kcAnd c (false, e) = some (false, e) := id rfl
def kcOr (d : CF) (r : Bool × Env) : Option (Bool × Env) := if r.1 then some (true, r.2) else d r.2
theorem cOr_q : cOr c c2 env = (c env).bind (kcOr c2) := id rfl
theorem kcOr_t : kcOr c (true, e) = some (true, e) := id rfl
theorem kcOr_f : kcOr c (false, e) = c e := id rfl
def keIf (fa fb : EF) (r : Bool × Env) : Option (T × Env) := if r.1 then fa r.2 else fb r.2
theorem eIf_q : eIf c fa fb env = (c env).bind (keIf fa fb) := id rfl
theorem keIf_t : keIf fa fb (true, e) = fa e := id rfl
theorem keIf_f : keIf fa fb (false, e) = fb e := id rfl
def keAnd (fb : EF) (r : Bool × Env) : Option (T × Env) := if r.1 then fb r.2 else some (.p (.bl false), r.2)
theorem eAnd_q : eAnd fa fb env = (cT fa env).bind (keAnd fb) := id rfl
theorem keAnd_t : keAnd fb (true, e) = fb e := id rfl
theorem keAnd_f : keAnd fb (false, e) = some (.p (.bl false), e) := id rfl
def keOr (fb : EF) (r : Bool × Env) : Option (T × Env) := if r.1 then some (.p (.bl true), r.2) else fb r.2
theorem eOr_q : eOr fa fb env = (cT fa env).bind (keOr fb) := id rfl
theorem keOr_t : keOr fb (true, e) = some (.p (.bl true), e) := id rfl
theorem keOr_f : keOr fb (false, e) = fb e := id rfl
def keNot (r : Bool × Env) : T × Env := (.p (.bl (!r.1)), r.2)
theorem eNot_q : eNot fa env = (cT fa env).map keNot := id rfl
theorem keNot_q {b : Bool} : keNot (b, e) = (.p (.bl (!b)), e) := id rfl
def kcIf (F1 F2 : SF) (r : Bool × Env) : Option (Fl × Env) := if r.1 then F1 r.2 else F2 r.2
theorem sIf_q : sIf c F1 F2 env = (c env).bind (kcIf F1 F2) := id rfl
theorem kcIf_t : kcIf F1 F2 (true, e) = F1 e := id rfl
theorem kcIf_f : kcIf F1 F2 (false, e) = F2 e := id rfl
-- calls
def kB1 (g : T → Option D) (x : T × Env) : Option (T × Env) := (g x.1).map (kP x.2)
theorem eB1_q {g : T → Option D} : eB1 g f env = (f env).bind (kB1 g) := id rfl
theorem kB1_q {g : T → Option D} : kB1 g (t, e) = (g t).map (kP e) := id rfl
def kI2 (g : Int → Int → Int) (r : List T × Env) : Option (T × Env) := match r.1 with
  | [.p (.int i), .p (.int j)] => some (.p (.int (g i j)), r.2)
  | _ => none
theorem eI2_q {g : Int → Int → Int} : eI2 g r env = (r env).bind (kI2 g) := id rfl
theorem kI2_q {g : Int → Int → Int} : kI2 g ([.p (.int z), .p (.int w)], e) = some (.p (.int (g z w)), e) := id rfl
def kIsi (ty : String) (x : T × Env) : Option (T × Env) := if tyOk x.1.toD = true then (kitB (tyD x.1.toD) ty).map (kBl x.2) else none
theorem eIsi_q {ty : String} : eIsi ty f env = (f env).bind (kIsi ty) := id rfl
theorem kIsi_q {ty : String} : kIsi ty (t, e) = if tyOk t.toD = true then (kitB (tyD t.toD) ty).map (kBl e) else none := id rfl
def kLst (e : Env) (ds : List D) : T × Env := (.lst (ds.map T.p), e)
theorem kLst_q : kLst e ds = (.lst (ds.map T.p), e) := id rfl
def kList (x : T × Env) : Option (T × Env) := (itemsT x.1).map (kLst x.2)
theorem eList_q : eList f env = (f env).bind kList := id rfl
theorem kList_q : kList (t, e) = (itemsT t).map (kLst e) := id rfl
def kTpl (e : Env) (ds : List D) : T × Env := (.p (.tup ds), e)
theorem kTpl_q : kTpl e ds = (.p (.tup ds), e) := id rfl
def kTuple (x : T × Env) : Option (T × Env) := (itemsT x.1).map (kTpl x.2)
theorem eTuple_q : eTuple f env = (f env).bind kTuple := id rfl
theorem kTuple_q : kTuple (t, e) = (itemsT t).map (kTpl e) := id rfl
def kCall2 (φ : List D → Option T) (e : Env) (ds : List D) : Option (T × Env) := (φ ds).map (kT2 e)
def kCall (φ : List D → Option T) (r : List T × Env) : Option (T × Env) := (allP r.1).bind (kCall2 φ r.2)
theorem eCall_q {φ : List D → Option T} : eCall φ r env = (r env).bind (kCall φ) := id rfl
theorem kCall_q {φ : List D → Option T} : kCall φ (ts, e) = (allP ts).bind (kCall2 φ e) := id rfl
theorem kCall2_q {φ : List D → Option T} : kCall2 φ e ds = (φ ds).map (kT2 e) := id rfl
def kCl (e : Env) (t : T) : Option (T × Env) := if cleanT t then some (t, e) else none
def kCallB (φ : List D → Option T) (r : List T × Env) : Option (T × Env) := (φ (T.toDs r.1)).bind (kCl r.2)
theorem eCallB_q {φ : List D → Option T} : eCallB φ r env = (r env).bind (kCallB φ) := id rfl
theorem kCallB_q {φ : List D → Option T} : kCallB φ (ts, e) = (φ (T.toDs ts)).bind (kCl e) := id rfl
theorem kCl_q : kCl e t = if cleanT t then some (t, e) else none := id rfl
theorem allP_n : allP [] = some [] := id rfl
theorem allP_c : allP (.p d :: ts) = (allP ts).map (List.cons d) := id rfl
-- places
def kIx2 (x : T) : T × Env → Option (T × Env)
  | (.p (.int i), e) => (ixT x i).map (kT2 e)
  | _ => none
def kIx1 (fi : EF) (x : T × Env) : Option (T × Env) := (fi x.2).bind (kIx2 x.1)
theorem eIx_q : eIx fa fb env = (fa env).bind (kIx1 fb) := by
  unfold eIx; congr 1; funext x; unfold kIx1; congr 1; funext y; obtain ⟨y, e⟩ := y; cases y with
  | p d => cases d <;> rfl
  | _ => rfl
theorem kIx1_q : kIx1 fb (t, e) = (fb e).bind (kIx2 t) := id rfl
theorem kIx2_q : kIx2 t (.p (.int z), e) = (ixT t z).map (kT2 e) := id rfl
theorem oN_q : oN env = some (none, env) := id rfl
def koS : T × Env → Option (Option Int × Env)
  | (.p (.int i), e) => some (some i, e)
  | _ => none
theorem oS_q : oS f env = (f env).bind koS := by
  unfold oS; congr 1; funext x; obtain ⟨x, e⟩ := x; cases x with
  | p d => cases d <;> rfl
  | _ => rfl
theorem koS_q : koS (.p (.int z), e) = some (some z, e) := id rfl
def kSl3 (x : T) (l : Option Int) (u : Option Int × Env) : Option (T × Env) := (cutT x l u.1).map (kT2 u.2)
def kSl2 (x : T) (hi : OF) (l : Option Int × Env) : Option (T × Env) := (hi l.2).bind (kSl3 x l.1)
def kSl1 (lo hi : OF) (x : T × Env) : Option (T × Env) := (lo x.2).bind (kSl2 x.1 hi)
theorem eSl_q {lo hi : OF} : eSl fa lo hi env = (fa env).bind (kSl1 lo hi) := id rfl
theorem kSl1_q {lo hi : OF} : kSl1 lo hi (t, e) = (lo e).bind (kSl2 t hi) := id rfl
theorem kSl2_q {hi : OF} {l : Option Int} : kSl2 t hi (l, e) = (hi e).bind (kSl3 t l) := id rfl
theorem kSl3_q {l u : Option Int} : kSl3 t l (u, e) = (cutT t l u).map (kT2 e) := id rfl
theorem cutT_p {l u : Option Int} : cutT (.p (.lst ds)) l u = some (.lst ((cutD ds l u).map T.p)) := id rfl
theorem cutT_l {l u : Option Int} : cutT (.lst (ds.map T.p)) l u = some (.lst ((cutD ds l u).map T.p)) := by
  show (allP (ds.map T.p)).map _ = _
  have : allP (ds.map T.p) = some ds := by
    induction ds with
    | nil => rfl
    | cons d ds ih => simp [allP, ih]
  rw [this]; rfl
theorem cutT_s {l u : Option Int} {s : Str} (h : s.length ≤ 16777216) : cutT (.p (.str s)) l u = some (.p (.str (cutS s l u))) := if_pos h
theorem cutT_t {l u : Option Int} (h : ¬ (HT.sIx ds.length 0 l = 0 ∧ HT.sIx ds.length ds.length u = ds.length)) : cutT (.p (.tup ds)) l u = some (.p (.tup (cutD ds l u))) := if_neg h
-- statements
theorem sNx_q : sNx env = some (.nx, env) := id rfl
theorem sBk_q : sBk env = some (.bk, env) := id rfl
theorem sCt_q : sCt env = some (.ct, env) := id rfl
theorem sRetN_q : sRetN env = some (.rt (.p .non), env) := id rfl
def kSeq (F2 : SF) (r : Fl × Env) : Option (Fl × Env) := match r.1 with
  | .nx => F2 r.2
  | .rt t => some (.rt t, r.2)
  | .bk => some (.bk, r.2)
  | .ct => some (.ct, r.2)
theorem sSeq_q : sSeq F1 F2 env = (F1 env).bind (kSeq F2) := id rfl
theorem kSeq_n : kSeq F (.nx, e) = F e := id rfl
theorem kSeq_r : kSeq F (.rt t, e) = some (.rt t, e) := id rfl
theorem kSeq_b : kSeq F (.bk, e) = some (.bk, e) := id rfl
theorem kSeq_c : kSeq F (.ct, e) = some (.ct, e) := id rfl
def kRet (r : T × Env) : Fl × Env := (.rt r.1, r.2)
theorem sRet_q : sRet f env = (f env).map kRet := id rfl
theorem kRet_q : kRet (t, e) = (.rt t, e) := id rfl
def kSet (i : Nat) (r : T × Env) : Option (Fl × Env) := if i < r.2.length then some (.nx, r.2.set i (some r.1)) else none
theorem sSet_q : sSet i f env = (f env).bind (kSet i) := id rfl
theorem kSet_q : kSet i (t, e) = if i < e.length then some (.nx, e.set i (some t)) else none := id rfl
def kDrop (r : T × Env) : Fl × Env := (.nx, r.2)
theorem sDrop_q : sDrop f env = (f env).map kDrop := id rfl
theorem kDrop_q : kDrop (t, e) = (.nx, e) := id rfl
theorem gNm_q : gNm i t env = if i < env.length then some (env.set i (some t)) else none := id rfl
theorem gEnd_q : gEnd [] env = some env := id rfl
theorem gAnd_q : gAnd G gs (t :: ts) env = (G t env).bind (gs ts) := id rfl
def kTp (n : Nat) (g : GsF) (env : Env) (us : List T) : Option Env := if us.length = n then g us env else none
theorem gTp_q : gTp n gs t env = (partsT t).bind (kTp n gs env) := id rfl
theorem kTp_q : kTp n gs env ts = if ts.length = n then gs ts env else none := id rfl
theorem partsT_p : partsT (.p (.tup ds)) = some (ds.map T.p) := id rfl
theorem partsT_t : partsT (.tup ts) = some ts := id rfl
def kNx (e : Env) : Fl × Env := (.nx, e)
theorem kNx_q : kNx e = (.nx, e) := id rfl
def kAsg (G : GF) (r : T × Env) : Option (Fl × Env) := (G r.1 r.2).map kNx
theorem sAsg_q : sAsg f G env = (f env).bind (kAsg G) := id rfl
theorem kAsg_q : kAsg G (t, e) = (G t e).map kNx := id rfl
-- walks
def kFor (G : GF) (body : SF) (r : List D × Env) : Option (Fl × Env) := loopD G body r.1 r.2
theorem sFor_q {fi : IF} : sFor fi G F env = (fi env).bind (kFor G F) := id rfl
theorem kFor_q : kFor G F (ds, e) = loopD G F ds e := id rfl
def kLp2 (G : GF) (body : SF) (ds : List D) (r : Fl × Env) : Option (Fl × Env) := match r.1 with
  | .nx => loopD G body ds r.2
  | .ct => loopD G body ds r.2
  | .bk => some (.nx, r.2)
  | .rt t => some (.rt t, r.2)
def kLp1 (G : GF) (body : SF) (ds : List D) (e : Env) : Option (Fl × Env) := (body e).bind (kLp2 G body ds)
theorem loop_n : loopD G F [] env = some (.nx, env) := id rfl
theorem loop_c : loopD G F (d :: ds) env = (G (.p d) env).bind (kLp1 G F ds) := id rfl
theorem kLp1_q : kLp1 G F ds e = (F e).bind (kLp2 G F ds) := id rfl
theorem kLp2_n : kLp2 G F ds (.nx, e) = loopD G F ds e := id rfl
theorem kLp2_c : kLp2 G F ds (.ct, e) = loopD G F ds e := id rfl
theorem kLp2_b : kLp2 G F ds (.bk, e) = some (.nx, e) := id rfl
theorem kLp2_r : kLp2 G F ds (.rt t, e) = some (.rt t, e) := id rfl
def kiL (r : T × Env) : Option (List D × Env) := match r.1 with | .p (.lst ds) => some (ds, r.2) | _ => none
theorem iL_q : iL f env = (f env).bind kiL := id rfl
theorem kiL_q : kiL (.p (.lst ds), e) = some (ds, e) := id rfl
def kiTp (r : T × Env) : Option (List D × Env) := match r.1 with | .p (.tup ds) => some (ds, r.2) | _ => none
theorem iTp_q : iTp f env = (f env).bind kiTp := id rfl
theorem kiTp_q : kiTp (.p (.tup ds), e) = some (ds, e) := id rfl
def kiSg (r : T × Env) : Option (List D × Env) := match r.1 with
  | .p (.str z) => some (signsD z, r.2)
  | _ => none
theorem iSg_q : iSg f env = (f env).bind kiSg := id rfl
theorem kiSg_q {s : Str} : kiSg (.p (.str s), e) = some (signsD s, e) := id rfl
def kR1 (r : List T × Env) : Option (List D × Env) := match r.1 with
  | [.p (.int j)] => if j < 4611686018427387904 ∧ -4611686018427387904 ≤ j then some (rngD 0 j.toNat, r.2) else none
  | _ => none
theorem iR1_q : iR1 r env = (r env).bind kR1 := id rfl
theorem kR1_q (h1 : -4611686018427387904 ≤ z) (h2 : z < 4611686018427387904) : kR1 ([.p (.int z)], e) = some (rngD 0 z.toNat, e) := if_pos ⟨h2, h1⟩
def kR2 (r : List T × Env) : Option (List D × Env) := match r.1 with
  | [.p (.int i), .p (.int j)] => if (i < 4611686018427387904 ∧ -4611686018427387904 ≤ i) ∧ (j < 4611686018427387904 ∧ -4611686018427387904 ≤ j) then some (rngD i (j - i).toNat, r.2) else none
  | _ => none
theorem iR2_q : iR2 r env = (r env).bind kR2 := id rfl
theorem kR2_q (h1 : -4611686018427387904 ≤ z) (h2 : z < 4611686018427387904) (h3 : -4611686018427387904 ≤ w) (h4 : w < 4611686018427387904) : kR2 ([.p (.int z), .p (.int w)], e) = some (rngD z (w - z).toNat, e) := if_pos ⟨⟨h2, h1⟩, h4, h3⟩
def kEn (r : List T × Env) : Option (List D × Env) := match r.1 with
  | [.p (.lst ds)] => some (enumD 0 ds, r.2)
  | _ => none
theorem iEn_q : iEn r env = (r env).bind kEn := id rfl
theorem kEn_q : kEn ([.p (.lst ds)], e) = some (enumD 0 ds, e) := id rfl
def kZp (r : List T × Env) : Option (List D × Env) := match r.1 with
  | [.p (.lst ds), .p (.lst es)] => some (zipD ds es, r.2)
  | [.p (.tup ds), .p (.tup es)] => some (zipD ds es, r.2)
  | _ => none
theorem iZp_q : iZp r env = (r env).bind kZp := id rfl
theorem kZp_q : kZp ([.p (.lst ds), .p (.lst es)], e) = some (zipD ds es, e) := id rfl
theorem kZp_t : kZp ([.p (.tup ds), .p (.tup es)], e) = some (zipD ds es, e) := id rfl
def kForV2 (us : List T) (i : Nat) (r : Fl × Env) : Fl × Env := (r.1, match r.1 with
  | .rt _ => r.2
  | _ => r.2.set i (some (.lst us)))
def kForV1 (i : Nat) (G : GF) (body : SF) (env : Env) (us : List T) (ds : List D) : Option (Fl × Env) := (loopD G body ds (env.set i none)).map (kForV2 us i)
def kForV (i : Nat) (G : GF) (body : SF) (env : Env) (us : List T) : Option (Fl × Env) := (allP us).bind (kForV1 i G body env us)
theorem sForV_q : sForV i G F env = (atL env i).bind (kForV i G F env) := id rfl
theorem kForV_q : kForV i G F env us = (allP us).bind (kForV1 i G F env us) := id rfl
theorem kForV1_q : kForV1 i G F env us ds = (loopD G F ds (env.set i none)).map (kForV2 us i) := id rfl
theorem kForV2_n : kForV2 us i (.nx, e) = (.nx, e.set i (some (.lst us))) := id rfl
theorem kForV2_r : kForV2 us i (.rt t, e) = (.rt t, e) := id rfl
-- lists in place
def kAtL : Option (Option T) → Option (List T)
  | some (some (.lst us)) => some us
  | _ => none
theorem atL_q : atL env i = kAtL env[i]? := id rfl
theorem kAtL_q : kAtL (some (some (.lst us))) = some us := id rfl
def kApp2 (i : Nat) (t : T) (e : Env) (us : List T) : Option (Fl × Env) := if us.length < 16000000 then some (.nx, e.set i (some (.lst (us ++ [t])))) else none
def kApp1 (i : Nat) (r : T × Env) : Option (Fl × Env) := (atL r.2 i).bind (kApp2 i r.1 r.2)
def kApp (i : Nat) (f : EF) (env : Env) (_ : List T) : Option (Fl × Env) := (f env).bind (kApp1 i)
theorem sApp_q : sApp i f env = (atL env i).bind (kApp i f env) := by
  unfold sApp atL
  split
  · rename_i h
    show _ = (f env).bind (kApp1 i)
    congr 1; funext r; unfold kApp1 atL
    split <;> rfl
  · rfl
theorem kApp_q : kApp i f env us = (f env).bind (kApp1 i) := id rfl
theorem kApp1_q : kApp1 i (t, e) = (atL e i).bind (kApp2 i t e) := id rfl
theorem kApp2_q : kApp2 i t e us = if us.length < 16000000 then some (.nx, e.set i (some (.lst (us ++ [t])))) else none := id rfl
def kPutEnd (i : Nat) (t : T) (e : Env) (us : List T) (k : Nat) : Fl × Env := (.nx, e.set i (some (.lst (us.set k t))))
def kPut4 (i : Nat) (t : T) (e : Env) (j : Int) (us : List T) : Option (Fl × Env) := (ixN us.length j).map (kPutEnd i t e us)
def kPut3 (i : Nat) (t : T) (e : Env) (j : Int) : Option (Fl × Env) := (atL e i).bind (kPut4 i t e j)
def kPut2 (i : Nat) (t : T) (s : T × Env) : Option (Fl × Env) := (asI s.1).bind (kPut3 i t s.2)
def kPut1 (i : Nat) (fj : EF) (r : T × Env) (_ : List T) : Option (Fl × Env) := (fj r.2).bind (kPut2 i r.1)
def kPut (i : Nat) (fj : EF) (r : T × Env) : Option (Fl × Env) := (atL r.2 i).bind (kPut1 i fj r)
theorem sPut_q : sPut i fa f env = (f env).bind (kPut i fa) := id rfl
theorem kPut_q : kPut i fa (t, e) = (atL e i).bind (kPut1 i fa (t, e)) := id rfl
theorem kPut1_q : kPut1 i fa (t, e) us = (fa e).bind (kPut2 i t) := id rfl
theorem kPut2_q : kPut2 i t (u, e) = (asI u).bind (kPut3 i t e) := id rfl
theorem kPut3_q : kPut3 i t e z = (atL e i).bind (kPut4 i t e z) := id rfl
theorem kPut4_q : kPut4 i t e z us = (ixN us.length z).map (kPutEnd i t e us) := id rfl
theorem kPutEnd_q : kPutEnd i t e us k = (.nx, e.set i (some (.lst (us.set k t)))) := id rfl
theorem asI_q : asI (.p (.int z)) = some z := id rfl
def kAx8 (i : Nat) (h : Int → Int → Int) (x y : Int) (e : Env) (us : List T) (k : Nat) : Fl × Env := (.nx, e.set i (some (.lst (us.set k (.p (.int (h x y)))))))
def kAx7 (i : Nat) (h : Int → Int → Int) (j x y : Int) (e : Env) (us : List T) : Option (Fl × Env) := (ixN us.length j).map (kAx8 i h x y e us)
def kAx6 (i : Nat) (h : Int → Int → Int) (j x : Int) (e : Env) (y : Int) : Option (Fl × Env) := (atL e i).bind (kAx7 i h j x y e)
def kAx5 (i : Nat) (h : Int → Int → Int) (j x : Int) (r : T × Env) : Option (Fl × Env) := (asI r.1).bind (kAx6 i h j x r.2)
def kAx4 (i : Nat) (h : Int → Int → Int) (f : EF) (j : Int) (e : Env) (x : Int) : Option (Fl × Env) := (f e).bind (kAx5 i h j x)
def kAx3 (i : Nat) (h : Int → Int → Int) (f : EF) (j : Int) (e : Env) (t : T) : Option (Fl × Env) := (asI t).bind (kAx4 i h f j e)
def kAx2 (i : Nat) (h : Int → Int → Int) (f : EF) (j : Int) (e : Env) (us : List T) : Option (Fl × Env) := (atI us j).bind (kAx3 i h f j e)
def kAx1 (i : Nat) (h : Int → Int → Int) (f : EF) (e : Env) (j : Int) : Option (Fl × Env) := if 0 ≤ j then (atL e i).bind (kAx2 i h f j e) else none
def kAx0 (i : Nat) (h : Int → Int → Int) (f : EF) (s : T × Env) : Option (Fl × Env) := (asI s.1).bind (kAx1 i h f s.2)
def kAx (i : Nat) (h : Int → Int → Int) (fj f : EF) (env : Env) (_ : List T) : Option (Fl × Env) := (fj env).bind (kAx0 i h f)
variable {h : Int → Int → Int} {x y : Int}
theorem sAugIx_q : sAugIx i h fa f env = (atL env i).bind (kAx i h fa f env) := id rfl
theorem kAx_q : kAx i h fa f env us = (fa env).bind (kAx0 i h f) := id rfl
theorem kAx0_q : kAx0 i h f (t, e) = (asI t).bind (kAx1 i h f e) := id rfl
theorem kAx1_q (hz : 0 ≤ z) : kAx1 i h f e z = (atL e i).bind (kAx2 i h f z e) := if_pos hz
theorem kAx2_q : kAx2 i h f z e us = (atI us z).bind (kAx3 i h f z e) := id rfl
theorem kAx3_q : kAx3 i h f z e t = (asI t).bind (kAx4 i h f z e) := id rfl
theorem kAx4_q : kAx4 i h f z e x = (f e).bind (kAx5 i h z x) := id rfl
theorem kAx5_q : kAx5 i h z x (t, e) = (asI t).bind (kAx6 i h z x e) := id rfl
theorem kAx6_q : kAx6 i h z x e y = (atL e i).bind (kAx7 i h z x y e) := id rfl
theorem kAx7_q : kAx7 i h z x y e us = (ixN us.length z).map (kAx8 i h x y e us) := id rfl
theorem kAx8_q : kAx8 i h x y e us k = (.nx, e.set i (some (.lst (us.set k (.p (.int (h x y))))))) := id rfl
def kAug3 (i : Nat) (e : Env) (d : D) : Option (Fl × Env) := if i < e.length then some (.nx, e.set i (some (.p d))) else none
def kAug2 (i : Nat) (g : D → D → Option D) (a : D) : T × Env → Option (Fl × Env)
  | (.p b, e) => (g a b).bind (kAug3 i e)
  | _ => none
def kAug (i : Nat) (g : D → D → Option D) (f : EF) (env : Env) : Option (Option T) → Option (Fl × Env)
  | some (some (.p a)) => (f env).bind (kAug2 i g a)
  | _ => none
theorem sAug_q {g : D → D → Option D} : sAug i g f env = kAug i g f env env[i]? := by
  unfold sAug
  generalize env[i]? = o
  cases o with
  | none => rfl
  | some o => cases o with
    | none => rfl
    | some t => cases t with
      | p a =>
        show (f env).bind _ = (f env).bind _
        congr 1; funext r; obtain ⟨r, e⟩ := r; cases r <;> rfl
      | _ => rfl
theorem kAug_q {g : D → D → Option D} : kAug i g f env (some (some (.p a))) = (f env).bind (kAug2 i g a) := id rfl
theorem kAug2_q {g : D → D → Option D} : kAug2 i g a (.p b, e) = (g a b).bind (kAug3 i e) := id rfl
theorem kAug3_q : kAug3 i e d = if i < e.length then some (.nx, e.set i (some (.p d))) else none := id rfl
-- comprehensions
def kCp4 (t : T) (z : List T × Env) : List T × Env := (t :: z.1, z.2)
def kCp3 (own : List Nat) (G : GF) (test : CF) (elt : EF) (ds : List D) (s : T × Env) : Option (List T × Env) := (compD own G test elt ds (wipeE s.2 own)).map (kCp4 s.1)
def kCp2 (own : List Nat) (G : GF) (test : CF) (elt : EF) (ds : List D) (r : Bool × Env) : Option (List T × Env) := if r.1 then (elt r.2).bind (kCp3 own G test elt ds) else compD own G test elt ds (wipeE r.2 own)
def kCp1 (own : List Nat) (G : GF) (test : CF) (elt : EF) (ds : List D) (e1 : Env) : Option (List T × Env) := (test e1).bind (kCp2 own G test elt ds)
variable {own : List Nat}
theorem comp_n : compD own G c f [] env = some ([], env) := id rfl
theorem comp_c : compD own G c f (d :: ds) env = (G (.p d) env).bind (kCp1 own G c f ds) := id rfl
theorem kCp1_q : kCp1 own G c f ds e = (c e).bind (kCp2 own G c f ds) := id rfl
theorem kCp2_t : kCp2 own G c f ds (true, e) = (f e).bind (kCp3 own G c f ds) := id rfl
theorem kCp2_f : kCp2 own G c f ds (false, e) = compD own G c f ds (wipeE e own) := id rfl
theorem kCp3_q : kCp3 own G c f ds (t, e) = (compD own G c f ds (wipeE e own)).map (kCp4 t) := id rfl
theorem kCp4_q : kCp4 t (ts, e) = (t :: ts, e) := id rfl
def kLs (z : List T × Env) : T × Env := (.lst z.1, z.2)
def kComp (own : List Nat) (G : GF) (test : CF) (elt : EF) (r : List D × Env) : Option (T × Env) := if r.1.length ≤ 1000000 then (compD own G test elt r.1 (wipeE r.2 own)).map kLs else none
theorem eComp_q {fi : IF} : eComp own fi G c f env = (fi env).bind (kComp own G c f) := id rfl
theorem kComp_q : kComp own G c f (ds, e) = if ds.length ≤ 1000000 then (compD own G c f ds (wipeE e own)).map kLs else none := id rfl
theorem kLs_q : kLs (ts, e) = (.lst ts, e) := id rfl
theorem cYes_q : cYes env = some (true, env) := id rfl
theorem wipe_n : wipeE env [] = env := id rfl
theorem wipe_c {v : Nat} {vs : List Nat} : wipeE env (v :: vs) = (wipeE env vs).set v none := id rfl
-- texts
def kM12 (g : Str → Str → Option D) (x : T) : T × Env → Option (T × Env)
  | (.p (.str b), e) => match x with | .p (.str a) => (g a b).map (kP e) | _ => none
  | _ => none
def kM11 (g : Str → Str → Option D) (fe : EF) (x : T × Env) : Option (T × Env) := (fe x.2).bind (kM12 g x.1)
theorem eM1_q {g : Str → Str → Option D} : eM1 g fa fb env = (fa env).bind (kM11 g fb) := by
  unfold eM1; congr 1; funext x; unfold kM11; congr 1; funext y; obtain ⟨y, e⟩ := y; obtain ⟨x, e'⟩ := x
  cases y with
  | p d2 => cases d2 with
    | str s2 => cases x with
      | p d => cases d <;> rfl
      | _ => rfl
    | _ => cases x with
      | p d => cases d <;> rfl
      | _ => rfl
  | _ => cases x with
    | p d => cases d <;> rfl
    | _ => rfl
theorem kM11_q {g : Str → Str → Option D} : kM11 g fb (t, e) = (fb e).bind (kM12 g t) := id rfl
theorem kM12_q {g : Str → Str → Option D} {s s' : Str} : kM12 g (.p (.str s)) (.p (.str s'), e) = (g s s').map (kP e) := id rfl
def kSp2 (x : T) (y : T × Env) : Option (T × Env) := match x, y.1 with
  | .p (.str a), .p (.str b) => if (b.length == 0) = false ∧ a.length + 2 ≤ 16777216 then some (.lst (((Txt.split a b).map D.str).map T.p), y.2) else none
  | _, _ => none
def kSp1 (fe : EF) (x : T × Env) : Option (T × Env) := (fe x.2).bind (kSp2 x.1)
theorem eSplit_q : eSplit fa fb env = (fa env).bind (kSp1 fb) := id rfl
theorem kSp1_q : kSp1 fb (t, e) = (fb e).bind (kSp2 t) := id rfl
theorem kSp2_q {s s' : Str} : kSp2 (.p (.str s)) (.p (.str s'), e) = if (s'.length == 0) = false ∧ s.length + 2 ≤ 16777216 then some (.lst (((Txt.split s s').map D.str).map T.p), e) else none := id rfl
def kJn4 (a : Str) (e : Env) (ys : List Str) : Option (T × Env) := if (ys.map (·.length)).sum + ys.length * a.length ≤ 16777216 then some (.p (.str (Txt.join a ys)), e) else none
def kJn3 (a : Str) (e : Env) (ds : List D) : Option (T × Env) := (strsD ds).bind (kJn4 a e)
def kJn2 (x : T) (y : T × Env) : Option (T × Env) := match x with
  | .p (.str a) => (itemsT y.1).bind (kJn3 a y.2)
  | _ => none
def kJn1 (fe : EF) (x : T × Env) : Option (T × Env) := (fe x.2).bind (kJn2 x.1)
theorem eJoin_q : eJoin fa fb env = (fa env).bind (kJn1 fb) := id rfl
theorem kJn1_q : kJn1 fb (t, e) = (fb e).bind (kJn2 t) := id rfl
theorem kJn2_q {s : Str} : kJn2 (.p (.str s)) (t, e) = (itemsT t).bind (kJn3 s e) := id rfl
theorem kJn3_q {s : Str} : kJn3 s e ds = (strsD ds).bind (kJn4 s e) := id rfl
theorem kJn4_q {s : Str} {ys : List Str} : kJn4 s e ys = if (ys.map (·.length)).sum + ys.length * s.length ≤ 16777216 then some (.p (.str (Txt.join s ys)), e) else none := id rfl
def kCt3 (x y : T) (e : Env) (ds es : List D) : Option (T × Env) := if isLT x = true ∧ isLT y = true ∧ ds.length + es.length ≤ 16777216 then some (.lst ((ds ++ es).map T.p), e) else none
def kCt2 (x y : T) (e : Env) (ds : List D) : Option (T × Env) := (itemsT y).bind (kCt3 x y e ds)
def kCt1 (x : T) (y : T × Env) : Option (T × Env) := (itemsT x).bind (kCt2 x y.1 y.2)
def kCt0 (fb : EF) (x : T × Env) : Option (T × Env) := (fb x.2).bind (kCt1 x.1)
theorem eCat_q : eCat fa fb env = (fa env).bind (kCt0 fb) := id rfl
theorem kCt0_q : kCt0 fb (t, e) = (fb e).bind (kCt1 t) := id rfl
theorem kCt1_q : kCt1 t (u, e) = (itemsT t).bind (kCt2 t u e) := id rfl
theorem kCt2_q : kCt2 t u e ds = (itemsT u).bind (kCt3 t u e ds) := id rfl
theorem kCt3_q (h1 : isLT t = true) (h2 : isLT u = true) (h3 : ds.length + es.length ≤ 16777216) : kCt3 t u e ds es = some (.lst ((ds ++ es).map T.p), e) := if_pos ⟨h1, h2, h3⟩
theorem kCt3_pl {as : List D} (h3 : ds.length + es.length ≤ 16777216) : kCt3 (.p (.lst as)) (.lst us) e ds es = some (.lst ((ds ++ es).map T.p), e) := if_pos ⟨id rfl, id rfl, h3⟩
theorem kCt3_ll {ws : List T} (h3 : ds.length + es.length ≤ 16777216) : kCt3 (.lst ws) (.lst us) e ds es = some (.lst ((ds ++ es).map T.p), e) := if_pos ⟨id rfl, id rfl, h3⟩
theorem kCt3_lp {as : List D} (h3 : ds.length + es.length ≤ 16777216) : kCt3 (.lst us) (.p (.lst as)) e ds es = some (.lst ((ds ++ es).map T.p), e) := if_pos ⟨id rfl, id rfl, h3⟩
theorem kCt3_pp {as bs : List D} (h3 : ds.length + es.length ≤ 16777216) : kCt3 (.p (.lst as)) (.p (.lst bs)) e ds es = some (.lst ((ds ++ es).map T.p), e) := if_pos ⟨id rfl, id rfl, h3⟩
theorem itemsT_p : itemsT (.p (.lst ds)) = some ds := id rfl
theorem itemsT_t : itemsT (.p (.tup ds)) = some ds := id rfl
theorem itemsT_ll : itemsT (.lst ts) = allP ts := id rfl
theorem isLT_p : isLT (.p (.lst ds)) = true := id rfl
theorem isLT_l : isLT (.lst ts) = true := id rfl
-- dicts
variable {kd : List (Key × D)} {ky : Key} {st : Str}
theorem eDn_q : eDn env = some (.dic (pairsT []), env) := id rfl
def kDx4 (ds : List (Key × D)) (e : Env) (k : Key) : Option (T × Env) := (valD ds k).map (kP e)
def kDx3 (u : T) (e : Env) (ds : List (Key × D)) : Option (T × Env) := (keyT u).bind (kDx4 ds e)
def kDx2 (t : T) (s : T × Env) : Option (T × Env) := (dicT t).bind (kDx3 s.1 s.2)
def kDx1 (fi : EF) (r : T × Env) : Option (T × Env) := (fi r.2).bind (kDx2 r.1)
theorem eDix_q : eDix fa fb env = (fa env).bind (kDx1 fb) := id rfl
theorem kDx1_q : kDx1 fb (t, e) = (fb e).bind (kDx2 t) := id rfl
theorem kDx2_q : kDx2 t (u, e) = (dicT t).bind (kDx3 u e) := id rfl
theorem kDx3_q : kDx3 u e kd = (keyT u).bind (kDx4 kd e) := id rfl
theorem kDx4_q : kDx4 kd e ky = (valD kd ky).map (kP e) := id rfl
def kDg5 (u : T) (e : Env) (ds : List (Key × D)) (k : Key) : Option (T × Env) := match u with
  | .p z => some (.p ((valD ds k).getD z), e)
  | _ => none
def kDg4 (s u : T) (e : Env) (ds : List (Key × D)) : Option (T × Env) := (keyT s).bind (kDg5 u e ds)
def kDg3 (t s : T) (u : T × Env) : Option (T × Env) := (dicT t).bind (kDg4 s u.1 u.2)
def kDg2 (t : T) (fx : EF) (s : T × Env) : Option (T × Env) := (fx s.2).bind (kDg3 t s.1)
def kDg1 (fi fx : EF) (r : T × Env) : Option (T × Env) := (fi r.2).bind (kDg2 r.1 fx)
theorem eDget_q : eDget fa fb fc env = (fa env).bind (kDg1 fb fc) := id rfl
theorem kDg1_q : kDg1 fb fc (t, e) = (fb e).bind (kDg2 t fc) := id rfl
theorem kDg2_q : kDg2 t fc (u, e) = (fc e).bind (kDg3 t u) := id rfl
theorem kDg3_q {x : T} : kDg3 t u (x, e) = (dicT t).bind (kDg4 u x e) := id rfl
theorem kDg4_q {x : T} : kDg4 u x e kd = (keyT u).bind (kDg5 x e kd) := id rfl
theorem kDg5_q : kDg5 (.p d) e kd ky = some (.p ((valD kd ky).getD d), e) := id rfl
def kDi4 (b : Bool) (e : Env) (ds : List (Key × D)) (k : Key) : Option (T × Env) := some (.p (.bl (if b then (valD ds k).isSome else !(valD ds k).isSome)), e)
def kDi3 (b : Bool) (s : T) (e : Env) (ds : List (Key × D)) : Option (T × Env) := (keyT s).bind (kDi4 b e ds)
def kDi2 (b : Bool) (s : T) (r : T × Env) : Option (T × Env) := (dicT r.1).bind (kDi3 b s r.2)
def kDi1 (b : Bool) (fo : EF) (s : T × Env) : Option (T × Env) := (fo s.2).bind (kDi2 b s.1)
theorem eDin_q {b : Bool} : eDin b fa fb env = (fa env).bind (kDi1 b fb) := id rfl
theorem kDi1_q {b : Bool} : kDi1 b fb (t, e) = (fb e).bind (kDi2 b t) := id rfl
theorem kDi2_q {b : Bool} : kDi2 b t (u, e) = (dicT u).bind (kDi3 b t e) := id rfl
theorem kDi3_q {b : Bool} : kDi3 b t e kd = (keyT t).bind (kDi4 b e kd) := id rfl
theorem kDi4_t : kDi4 true e kd ky = some (.p (.bl (valD kd ky).isSome), e) := id rfl
theorem kDi4_f : kDi4 false e kd ky = some (.p (.bl (!(valD kd ky).isSome)), e) := id rfl
def kPd5 (i : Nat) (t : T) (e : Env) (k : Key) (kvs : List (Key × D)) : Option (Fl × Env) := match t with
  | .p d => if kvs.length < 16000000 then some (.nx, e.set i (some (.dic (pairsT (putD kvs k d))))) else none
  | _ => none
def kPd4 (i : Nat) (t : T) (e : Env) (k : Key) : Option (Fl × Env) := (atD e i).bind (kPd5 i t e k)
def kPd3 (i : Nat) (t : T) (s : T × Env) : Option (Fl × Env) := (keyT s.1).bind (kPd4 i t s.2)
def kPd2 (i : Nat) (fk : EF) (t : T) (e : Env) (_ : List (Key × D)) : Option (Fl × Env) := (fk e).bind (kPd3 i t)
def kPd1 (i : Nat) (fk : EF) (r : T × Env) : Option (Fl × Env) := (atD r.2 i).bind (kPd2 i fk r.1 r.2)
theorem sPutD_q : sPutD i fa f env = (f env).bind (kPd1 i fa) := id rfl
theorem kPd1_q : kPd1 i fa (t, e) = (atD e i).bind (kPd2 i fa t e) := id rfl
theorem kPd2_q : kPd2 i fa t e kd = (fa e).bind (kPd3 i t) := id rfl
theorem kPd3_q : kPd3 i t (u, e) = (keyT u).bind (kPd4 i t e) := id rfl
theorem kPd4_q : kPd4 i t e ky = (atD e i).bind (kPd5 i t e ky) := id rfl
theorem kPd5_q : kPd5 i (.p d) e ky kd = if kd.length < 16000000 then some (.nx, e.set i (some (.dic (pairsT (putD kd ky d))))) else none := id rfl
def kAtD : Option (Option T) → Option (List (Key × D))
  | some (some (.dic kvs)) => frzK kvs
  | _ => none
theorem atD_q : atD env i = kAtD env[i]? := id rfl
theorem kAtD_q : kAtD (some (some (.dic (pairsT kd)))) = some kd := frzK_pairs kd
theorem dicT_p : dicT (.p (.dic kd)) = some kd := id rfl
theorem dicT_o : dicT (.dic (pairsT kd)) = some kd := frzK_pairs kd
theorem keyT_i : keyT (.p (.int z)) = some (.inl z) := id rfl
theorem keyT_s : keyT (.p (.str st)) = some (.inr st) := id rfl
theorem toD_d : ∀ kd : List (Key × D), (T.dic (pairsT kd)).toD = .dic kd := fun kd => by
  have h : ∀ kd : List (Key × D), T.toKs (pairsT kd) = kd := fun kd => by
    induction kd with
    | nil => rfl
    | cons x r ih => obtain ⟨k, d⟩ := x; show (k, (T.p d).toD) :: T.toKs (pairsT r) = _; rw [ih]; rfl
  show D.dic (T.toKs (pairsT kd)) = _
  rw [h]
theorem kV_d : kV env i (some (some (.dic (pairsT kd)))) = some (.p (.dic kd), env.set i (some (.p (.dic kd)))) := by
  show some (T.p (T.dic (pairsT kd)).toD, env.set i (some (.p (T.dic (pairsT kd)).toD))) = _
  rw [toD_d]
-- a walk that hands its items on
def kForM (G : GF) (body : SF) (r : T × Env) : Option (Fl × Env) := match r.1 with
  | .lst us => loopT G body us r.2
  | _ => none
theorem sForM_q : sForM f G F env = (f env).bind (kForM G F) := id rfl
theorem kForM_q : kForM G F (.lst ts, e) = loopT G F ts e := id rfl
def kLt2 (G : GF) (body : SF) (ts : List T) (r : Fl × Env) : Option (Fl × Env) := match r.1 with
  | .nx => loopT G body ts r.2
  | .ct => loopT G body ts r.2
  | .bk => some (.nx, r.2)
  | .rt t => some (.rt t, r.2)
def kLt1 (G : GF) (body : SF) (ts : List T) (e : Env) : Option (Fl × Env) := (body e).bind (kLt2 G body ts)
theorem loopT_n : loopT G F [] env = some (.nx, env) := id rfl
theorem loopT_c : loopT G F (t :: ts) env = (G t env).bind (kLt1 G F ts) := id rfl
theorem kLt1_q : kLt1 G F ts e = (F e).bind (kLt2 G F ts) := id rfl
theorem kLt2_n : kLt2 G F ts (.nx, e) = loopT G F ts e := id rfl
theorem kLt2_r : kLt2 G F ts (.rt t, e) = some (.rt t, e) := id rfl
def kM0 (g : Str → Option D) (x : T × Env) : Option (T × Env) := match x.1 with
  | .p (.str a) => (g a).map (kP x.2)
  | _ => none
theorem eM0_q {g : Str → Option D} : eM0 g f env = (f env).bind (kM0 g) := id rfl
theorem kM0_q {g : Str → Option D} : kM0 g (.p (.str st), e) = (g st).map (kP e) := id rfl
def kR3 (r : List T × Env) : Option (List D × Env) := match r.1 with
  | [.p (.int i), .p (.int j), .p (.int c)] => if c ≠ 0 ∧ c.natAbs < 1073741824 ∧ Builtin.Range.small i j c = true ∧ Builtin.Range.rangeSize i j c = ((Builtin.Range.rangeSize i j c).toNat : Int) then some (rng3D i c (Builtin.Range.rangeSize i j c).toNat, r.2) else none
  | _ => none
theorem iR3_q : iR3 r env = (r env).bind kR3 := id rfl
-- a def
def kRun (r : Fl × Env) : Option T := match r.1 with
  | .rt t => some t
  | .nx => some (.p .non)
  | _ => none
theorem runF_q : runF n k F ds = if ds.length = k then (F (startE n ds)).bind kRun else none := id rfl
theorem kRun_r : kRun (.rt t, e) = some t := id rfl
theorem kRun_n : kRun (.nx, e) = some (.p .non) := id rfl
end DL

set_option Elab.async false
set_option linter.all false
set_option maxRecDepth 100000
/-! More of what the functions on data give: texts by their signs, == of like data, places. -/
namespace DL
open PySem PySem.Spec PyProof.Rows L2
abbrev sg (l : List Nat) : Str := ⟨l.toArray⟩
theorem sg_len (l : List Nat) : (sg l).length = l.length := by rw [TL.len_tl]
theorem sg_app (a b : List Nat) : sg a ++ sg b = sg (a ++ b) := TL.ext_tl (TL.tl_append (sg a) (sg b))
theorem sg_inj {a b : List Nat} : sg a = sg b ↔ a = b := ⟨fun h => congrArg TL.tl h, fun h => by rw [h]⟩
theorem sg_eta (s : Str) : sg s.cps.toList = s := TL.ext_tl rfl
def cod (s : String) : List Nat := s.toList.map Char.toNat
theorem ofS (s : String) : PySem.Str.ofString s = sg (cod s) := TL.ext_tl (TL.tl_ofString s)
theorem sg_ok (l : List Nat) : PyData.strOk (sg l) = l.all (fun c => decide (c < 1114112)) := by
  show (l.toArray).all _ = _
  rw [List.all_toArray]
theorem gAdd_g {a b : List Nat} (h : a.length + b.length ≤ 16777216) : gAdd (.str (sg a)) (.str (sg b)) = some (.str (sg (a ++ b))) := by
  rw [gAdd_s (by rw [sg_len, sg_len]; exact h), sg_app]
theorem ixT_sg {l : List Nat} {i : Int} (h : l.length ≤ 16777216) : ixT (.p (.str (sg l))) i = (atI l i).map fun c => .p (.str (sg [c])) := if_pos (by rw [sg_len]; exact h)
theorem eqQ_g {a b : List Nat} : eqQ (.str (sg a)) (.str (sg b)) = some (decide (a = b)) := by
  rw [eqQ_s]
  congr 1
  rw [Bool.eq_iff_iff]; simp [sg_inj]
theorem neQ_g {a b : List Nat} : neQ (.str (sg a)) (.str (sg b)) = some (!decide (a = b)) := by unfold neQ; rw [eqQ_g]; rfl
theorem repS_g (a : List Nat) (n : Int) : repS (sg a) n = sg (List.replicate n.toNat a).flatten := rfl
theorem gMulA_g {a : List Nat} {n : Int} (h1 : -1000000000 < n) (h2 : n < 1000000000) (h : a.length * n.toNat ≤ 16777216) : gMulA (.str (sg a)) (.int n) = some (.str (sg (List.replicate n.toNat a).flatten)) := by
  show (if _ then _ else none) = _
  rw [if_pos ⟨h1, h2, by rw [sg_len]; exact h⟩, repS_g]
theorem inStr_g (c : Nat) (l : List Nat) : inStr (sg [c]) (sg l) = decide (c ∈ l) := rfl
theorem inQ_g (c : Nat) (l : List Nat) : inQ (.str (sg [c])) (.str (sg l)) = some (decide (c ∈ l)) := rfl
theorem signsD_g (l : List Nat) : signsD (sg l) = l.map fun c => .str (sg [c]) := rfl
theorem join_g (s : List Nat) (ls : List (List Nat)) : Txt.join (sg s) (ls.map sg) = sg (TL.joinL s ls) := by
  rw [TL.join_eq]
  apply TL.ext_tl
  rw [TL.tl_join, List.map_map]
  show TL.joinL s (ls.map fun l => l) = TL.joinL s ls
  rw [List.map_id']
/-- an int's own text -/
def dg (i : Int) : List Nat := cod (toString i)
theorem toS (i : Int) : ((toString i : String) : Str) = sg (dg i) := ofS _
theorem gStr_i {i : Int} (h1 : -1606938044258990275541962092341162602522202993782792835301376 < i) (h2 : i < 1606938044258990275541962092341162602522202993782792835301376) : gStr (.p (.int i)) = some (.str (sg (dg i))) := by
  show (if _ then some (D.str (toString i)) else none) = _
  rw [if_pos (by omega), toS]
theorem gStr_s {s : Str} : gStr (.p (.str s)) = some (.str s) := rfl
theorem dg_len {i : Int} (h0 : 0 ≤ i) {k : Nat} (hk : 0 < k) (h : i < 10 ^ k) : (dg i).length ≤ k := by
  have := PyProof.Rows.toString_length_le h0 hk h
  rw [ofS, sg_len] at this
  exact this
theorem cod_ok (s : String) : ∀ c ∈ cod s, c < 1114112 := by
  intro c h
  obtain ⟨x, _, rfl⟩ := List.mem_map.mp h
  have hv : x.val.isValidChar := x.valid
  have h0 : x.toNat = x.val.toNat := rfl
  rw [h0]
  rcases hv with h | h <;> (have := h; simp only [UInt32.toNat] at *; omega)
/-! ### == of like data -/
mutual
def dOk : Nat → D → Bool
  | _, .non => true
  | _, .bl _ => true
  | _, .int _ => true
  | _, .str s => PyData.strOk s
  | 0, .lst _ => false
  | n + 1, .lst ds => dOks n ds
  | 0, .tup _ => false
  | n + 1, .tup ds => dOks n ds
  | _, .dic _ => false
  | _, .dit _ => false
  | _, .obj _ _ => false
  | _, .al _ => false
def dOks : Nat → List D → Bool
  | _, [] => true
  | n, d :: ds => dOk n d && dOks n ds
end
mutual
theorem dOk_py : ∀ (n : Nat) (d : D), dOk n d = true → ∃ p, toPy d = some p ∧ p.canLay0 = true ∧ p.depth ≤ n ∧ PyData.eqv p p = true
  | _, .non, _ => ⟨.none, rfl, rfl, Nat.zero_le _, rfl⟩
  | _, .bl b, _ => ⟨.bool b, rfl, rfl, Nat.zero_le _, by simp [PyData.eqv]⟩
  | _, .int b, _ => ⟨.int b, rfl, rfl, Nat.zero_le _, by simp [PyData.eqv]⟩
  | _, .str b, h => ⟨.str b, rfl, by unfold dOk at h; exact h, Nat.zero_le _, by simp [PyData.eqv]⟩
  | 0, .lst _, h => by unfold dOk at h; cases h
  | n + 1, .lst ds, h => by
    unfold dOk at h
    obtain ⟨ps, h1, h2, h3, h4⟩ := dOks_py n ds h
    refine ⟨.list ps, by show (toPys ds).map _ = _; rw [h1]; rfl, h2, ?_, by rw [PyData.eqv]; exact h4⟩
    show PyData.depthAll ps + 1 ≤ n + 1
    omega
  | 0, .tup _, h => by unfold dOk at h; cases h
  | n + 1, .tup ds, h => by
    unfold dOk at h
    obtain ⟨ps, h1, h2, h3, h4⟩ := dOks_py n ds h
    refine ⟨.tuple ps, by show (toPys ds).map _ = _; rw [h1]; rfl, h2, ?_, by rw [PyData.eqv]; exact h4⟩
    show PyData.depthAll ps + 1 ≤ n + 1
    omega
  | _, .dic _, h => by unfold dOk at h; cases h
  | _, .dit _, h => by unfold dOk at h; cases h
  | _, .obj _ _, h => by unfold dOk at h; cases h
  | _, .al _, h => by unfold dOk at h; cases h
theorem dOks_py : ∀ (n : Nat) (ds : List D), dOks n ds = true → ∃ ps, toPys ds = some ps ∧ PyData.canLayAll0 ps = true ∧ PyData.depthAll ps ≤ n ∧ PyData.eqvAll ps ps = true
  | _, [], _ => ⟨[], rfl, rfl, Nat.zero_le _, rfl⟩
  | n, d :: ds, h => by
    unfold dOks at h
    rw [Bool.and_eq_true] at h
    obtain ⟨p, h1, h2, h3, h4⟩ := dOk_py n d h.1
    obtain ⟨ps, k1, k2, k3, k4⟩ := dOks_py n ds h.2
    refine ⟨p :: ps, by show (toPy d).bind _ = _; rw [h1]; show (toPys ds).map _ = _; rw [k1]; rfl, ?_, ?_, ?_⟩
    · show (p.canLay0 && PyData.canLayAll0 ps) = true
      rw [h2, k2]; rfl
    · show max p.depth (PyData.depthAll ps) ≤ n
      omega
    · show (PyData.eqv p p && PyData.eqvAll ps ps) = true
      rw [h4, k4]; rfl
end
theorem eqQ_refl {d : D} (n : Nat) (hn : n ≤ 64) (h : dOk n d = true) : eqQ d d = some true := by
  have deep : eqDeep d d = some true := by
    obtain ⟨p, h1, h2, h3, h4⟩ := dOk_py n d h
    unfold eqDeep
    rw [h1]
    show (if (SeqAt.shaped p && SeqAt.shaped p) = true then some (PyData.eqv p p) else none) = some true
    have hs : SeqAt.shaped p = true := by
      unfold SeqAt.shaped
      rw [h2, decide_eq_true (by omega)]; rfl
    rw [hs, h4]; rfl
  cases d with
  | int i => rw [eqQ_i]; simp
  | str i => rw [eqQ_s]; simp
  | bl i => rw [eqQ_b]; simp
  | non => rfl
  | lst ds => exact deep
  | tup ds => exact deep
  | dic ds => exact deep
  | dit ds => exact deep
  | obj _ ds => exact deep
  | al _ => exact deep
theorem neQ_refl {d : D} (n : Nat) (hn : n ≤ 64) (h : dOk n d = true) : neQ d d = some false := by unfold neQ; rw [eqQ_refl n hn h]; rfl
theorem dOks_all {n : Nat} : ∀ {ds : List D}, (∀ d ∈ ds, dOk n d = true) → dOks n ds = true
  | [], _ => by unfold dOks; rfl
  | d :: ds, h => by unfold dOks; rw [h d (by simp), dOks_all fun x hx => h x (by simp [hx])]; rfl
theorem dOk_lst {n : Nat} {ds : List D} (h : ∀ d ∈ ds, dOk n d = true) : dOk (n + 1) (.lst ds) = true := by unfold dOk; exact dOks_all h
theorem dOk_tup {n : Nat} {ds : List D} (h : ∀ d ∈ ds, dOk n d = true) : dOk (n + 1) (.tup ds) = true := by unfold dOk; exact dOks_all h
theorem dOk_int {n : Nat} {i : Int} : dOk n (.int i) = true := by unfold dOk; rfl
theorem dOk_bl {n : Nat} {i : Bool} : dOk n (.bl i) = true := by unfold dOk; rfl
theorem dOk_non {n : Nat} : dOk n .non = true := by unfold dOk; rfl
theorem dOk_sg {n : Nat} {l : List Nat} (h : ∀ c ∈ l, c < 1114112) : dOk n (.str (sg l)) = true := by
  unfold dOk
  rw [sg_ok, List.all_eq_true]
  exact fun c hc => decide_eq_true (h c hc)
/-! ### a place in a list -/
theorem atI_in {α : Type} {xs : List α} {i : Int} (h0 : 0 ≤ i) (h1 : i < xs.length) : ∃ x, x ∈ xs ∧ atI xs i = some x ∧ xs[i.toNat]? = some x := by
  have hlt : i.toNat < xs.length := by omega
  refine ⟨xs[i.toNat], List.getElem_mem hlt, ?_, List.getElem?_eq_getElem hlt⟩
  have := atI_nat (xs := xs) (j := i.toNat) (List.getElem?_eq_getElem hlt)
  rwa [show ((i.toNat : Nat) : Int) = i by omega] at this
theorem gMul_w {i j : Int} (h : Builtin.Int.intBits i ≤ 1048576) (h1 : -1606938044258990275541962092341162602522202993782792835301376 < j) (h2 : j < 1606938044258990275541962092341162602522202993782792835301376) : gMul (.int i) (.int j) = some (.int (i * j)) := by
  refine gMul_b ?_
  have e : (2 : Nat) ^ 200 = 1606938044258990275541962092341162602522202993782792835301376 := by decide
  have : Builtin.Int.intBits j ≤ 200 := PySem.intBits_le_iff.mpr (by rw [e]; omega)
  omega
/-! ### a text among texts -/
theorem toVs_strs : ∀ ss : List Str, toVs (ss.map D.str) = some (ss.map V.str)
  | [] => rfl
  | s :: ss => by
    show (toV (.str s)).bind (fun v => (toVs (ss.map D.str)).map (v :: ·)) = _
    rw [toVs_strs ss]; rfl
theorem inV_strs (s : Str) (ss : List Str) : inV (.str s) (ss.map V.str) = decide (s ∈ ss) := by
  unfold inV
  rw [Bool.eq_iff_iff]
  simp only [List.any_map, List.any_eq_true, Function.comp_apply, decide_eq_true_eq]
  constructor
  · rintro ⟨x, h1, h2⟩
    have : (x == s) = true := h2
    rw [← eq_of_beq this]; exact h1
  · intro h
    exact ⟨s, h, show (s == s) = true from beq_self_eq_true s⟩
theorem flat_strs (ss : List Str) : (ss.map V.str).all flatV = true := by
  rw [List.all_eq_true]
  intro x hx
  obtain ⟨y, _, rfl⟩ := List.mem_map.mp hx
  rfl
theorem inQ_strs (s : Str) (ss : List Str) : inQ (.str s) (.lst (ss.map D.str)) = some (decide (s ∈ ss)) := by
  show inFlat (.str s) (ss.map D.str) = _
  unfold inFlat
  rw [toVs_strs]
  show (if (flatV (.str s) && (ss.map V.str).all flatV) = true then some (inV (.str s) (ss.map V.str)) else none) = _
  rw [flat_strs, inV_strs]; rfl
/-! ### bounds that a walk asks for -/
theorem rng_if {α : Type} {j : Int} {a b : α} (h1 : -4611686018427387904 ≤ j) (h2 : j < 4611686018427387904) : (if j < 4611686018427387904 ∧ -4611686018427387904 ≤ j then a else b) = a := if_pos ⟨h2, h1⟩
theorem rng2_if {α : Type} {i j : Int} {a b : α} (h1 : -4611686018427387904 ≤ i) (h2 : i < 4611686018427387904) (h3 : -4611686018427387904 ≤ j) (h4 : j < 4611686018427387904) : (if (i < 4611686018427387904 ∧ -4611686018427387904 ≤ i) ∧ (j < 4611686018427387904 ∧ -4611686018427387904 ≤ j) then a else b) = a := if_pos ⟨⟨h2, h1⟩, h4, h3⟩
theorem ifLe {α : Type} {n m : Nat} {a b : α} (h : n ≤ m) : (if n ≤ m then a else b) = a := if_pos h
theorem ifLt {α : Type} {n m : Nat} {a b : α} (h : n < m) : (if n < m then a else b) = a := if_pos h
theorem rng_len (lo : Int) (n : Nat) : (rngD lo n).length = n := by simp [rngD]
theorem rngD_cons (lo : Int) (n : Nat) : rngD lo (n + 1) = .int lo :: rngD (lo + 1) n := by
  unfold rngD
  rw [List.range_succ_eq_map, List.map_cons, List.map_map]
  congr 1
  · simp
  · apply List.map_congr_left
    intro k _
    show D.int (lo + ((k + 1 : Nat) : Int)) = D.int (lo + 1 + (k : Int))
    rw [show lo + ((k + 1 : Nat) : Int) = lo + 1 + (k : Int) by omega]
theorem rngD_nil (lo : Int) : rngD lo 0 = [] := rfl
/-! ### pieces of a text -/
theorem sIx_i {n d : Nat} {k : Int} (h : 0 ≤ k) : HT.sIx n d (some k) = min k.toNat n := by
  show (if k < 0 then (k + (n : Int)).toNat else min k.toNat n) = _
  rw [if_neg (by omega)]
theorem cutT_take {l : List Nat} {k : Int} (hl : l.length ≤ 16777216) (h : 0 ≤ k) : cutT (.p (.str (sg l))) none (some k) = some (.p (.str (sg (l.take k.toNat)))) := by
  rw [cutT_s (by rw [sg_len]; exact hl)]
  unfold cutS
  rw [sg_len, HT.sIx_none, sIx_i h]
  show some (T.p (.str (sg ((l.drop 0).take (min k.toNat l.length - 0))))) = _
  rw [List.drop_zero, Nat.sub_zero]
  congr 4
  rw [List.take_eq_take_iff]; simp
theorem cutT_drop {l : List Nat} {k : Int} (hl : l.length ≤ 16777216) (h : 0 ≤ k) : cutT (.p (.str (sg l))) (some k) none = some (.p (.str (sg (l.drop k.toNat)))) := by
  rw [cutT_s (by rw [sg_len]; exact hl)]
  unfold cutS
  rw [sg_len, HT.sIx_none, sIx_i h]
  show some (T.p (.str (sg ((l.drop (min k.toNat l.length)).take (l.length - min k.toNat l.length))))) = _
  congr 4
  rw [List.take_of_length_le (by rw [List.length_drop]; omega)]
  by_cases c : k.toNat ≤ l.length
  · rw [Nat.min_eq_left c]
  · rw [Nat.min_eq_right (by omega), List.drop_of_length_le (Nat.le_refl _), List.drop_of_length_le (by omega)]
theorem notInQ_g (c : Nat) (l : List Nat) : notInQ (.str (sg [c])) (.str (sg l)) = some (!decide (c ∈ l)) := rfl
theorem gLen_g {l : List Nat} (h : l.length ≤ 16777216) : gLen (.p (.str (sg l))) = some (.int (l.length : Int)) := by
  show ((if (sg l).length ≤ 16777216 then some (((sg l).length : Nat) : Int) else none)).map D.int = _
  rw [sg_len, if_pos h]; rfl
theorem bLe_t {i j : Int} (h : i ≤ j) : bLe i j = true := decide_eq_true h
theorem bLe_f {i j : Int} (h : ¬ i ≤ j) : bLe i j = false := decide_eq_false h
theorem bLt_t {i j : Int} (h : i < j) : bLt i j = true := decide_eq_true h
theorem bLt_f {i j : Int} (h : ¬ i < j) : bLt i j = false := decide_eq_false h
abbrev chr1 (c : Nat) : D := .str (sg [c])
/-! ### dicts -/
theorem valD_nil (k : Key) : valD [] k = none := rfl
theorem valD_cons (k j : Key) (d : D) (r : List (Key × D)) : valD ((j, d) :: r) k = if j = k then some d else valD r k := by
  by_cases c : j = k
  · rw [if_pos c]; simp [valD, List.find?_cons, c]
  · rw [if_neg c]; simp [valD, List.find?_cons, c]
theorem valD_app (k j : Key) (d : D) : ∀ r : List (Key × D), valD (r ++ [(j, d)]) k = match valD r k with
    | some x => some x
    | none => if j = k then some d else none
  | [] => by rw [List.nil_append, valD_cons, valD_nil]
  | (i, x) :: r => by
    rw [List.cons_append, valD_cons, valD_cons, valD_app k j d r]
    by_cases c : i = k
    · rw [if_pos c, if_pos c]
    · rw [if_neg c, if_neg c]
theorem valD_map (k j : Key) (d : D) : ∀ r : List (Key × D), valD (r.map fun kv => if kv.1 = j then (kv.1, d) else kv) k = if k = j then (valD r k).map (fun _ => d) else valD r k
  | [] => by simp [valD]
  | (i, x) :: r => by
    rw [List.map_cons]
    by_cases c : i = j
    · rw [if_pos c, valD_cons, valD_cons, valD_map k j d r]
      by_cases c2 : i = k
      · rw [if_pos c2, if_pos c2, if_pos (c2 ▸ c)]; rfl
      · rw [if_neg c2, if_neg c2]
    · rw [if_neg c, valD_cons, valD_cons, valD_map k j d r]
      by_cases c2 : i = k
      · rw [if_pos c2, if_pos c2, if_neg (fun z => c (c2.trans z))]
      · rw [if_neg c2, if_neg c2]
theorem any_val (k : Key) : ∀ r : List (Key × D), (r.any fun kv => decide (kv.1 = k)) = (valD r k).isSome
  | [] => rfl
  | (i, x) :: r => by
    rw [List.any_cons, valD_cons, any_val k r]
    by_cases c : i = k
    · simp [c]
    · simp [c]
theorem valD_put (k j : Key) (d : D) (r : List (Key × D)) : valD (putD r j d) k = if k = j then some d else valD r k := by
  unfold putD
  rw [any_val]
  cases hv : valD r j with
  | none =>
    rw [if_neg (by simp), valD_app]
    by_cases c : k = j
    · subst c; rw [hv, if_pos rfl]
    · rw [if_neg c, if_neg (fun z => c z.symm)]
      cases valD r k <;> rfl
  | some x =>
    rw [if_pos (by simp), valD_map]
    by_cases c : k = j
    · subst c; rw [if_pos rfl, if_pos rfl, hv]; rfl
    · rw [if_neg c, if_neg c]
end DL

set_option Elab.async false
set_option linter.all false
set_option maxRecDepth 100000
/-! Loops and comprehensions by their images; pieces of lists. -/
namespace DL
open PySem PySem.Spec PyProof.Rows L2
section
variable {G : GF} {F : SF} {d : D} {ds : List D} {env e2 : DL.Env} {r : Option (Fl × DL.Env)} {own : List Nat} {c : CF} {el : EF}
theorem loop_nx (h : (G (.p d) env).bind F = some (.nx, e2)) (ih : loopD G F ds e2 = r) : loopD G F (d :: ds) env = r := by
  obtain ⟨e1, h1, h2⟩ := obind h
  rw [loop_c, h1]
  show (F e1).bind _ = _
  rw [h2]
  exact ih
theorem loop_ct (h : (G (.p d) env).bind F = some (.ct, e2)) (ih : loopD G F ds e2 = r) : loopD G F (d :: ds) env = r := by
  obtain ⟨e1, h1, h2⟩ := obind h
  rw [loop_c, h1]
  show (F e1).bind _ = _
  rw [h2]
  exact ih
theorem loop_rt {t : T} (h : (G (.p d) env).bind F = some (.rt t, e2)) : loopD G F (d :: ds) env = some (.rt t, e2) := by
  obtain ⟨e1, h1, h2⟩ := obind h
  rw [loop_c, h1]
  show (F e1).bind _ = _
  rw [h2]; rfl
theorem loop_bk (h : (G (.p d) env).bind F = some (.bk, e2)) : loopD G F (d :: ds) env = some (.nx, e2) := by
  obtain ⟨e1, h1, h2⟩ := obind h
  rw [loop_c, h1]
  show (F e1).bind _ = _
  rw [h2]; rfl
/-- a loop over an image; the names' values by what was gone through -/
theorem loop_img {α : Type} (dd : α → D) (P : List α → DL.Env → Prop) : ∀ (xs done : List α) (env : DL.Env), P done env → (∀ (pre : List α) (x : α) (post : List α) (e : DL.Env), done ++ xs = pre ++ x :: post → P pre e → ∃ e2, ((G (.p (dd x)) e).bind F = some (.nx, e2) ∨ (G (.p (dd x)) e).bind F = some (.ct, e2)) ∧ P (pre ++ [x]) e2) →
    ∃ e', loopD G F (xs.map dd) env = some (.nx, e') ∧ P (done ++ xs) e'
  | [], done, env, h0, _ => ⟨env, rfl, by rw [List.append_nil]; exact h0⟩
  | x :: xs, done, env, h0, hs => by
    obtain ⟨e2, h1, h2⟩ := hs done x xs env rfl h0
    obtain ⟨e', h3, h4⟩ := loop_img dd P xs (done ++ [x]) e2 h2 fun pre y post e hp => hs pre y post e (by rw [← hp]; simp)
    refine ⟨e', ?_, by simpa using h4⟩
    rcases h1 with h1 | h1
    · exact loop_nx h1 h3
    · exact loop_ct h1 h3
theorem loop_img0 {α : Type} (dd : α → D) (P : List α → DL.Env → Prop) (xs : List α) {env : DL.Env} (h0 : P [] env) (hs : ∀ (pre : List α) (x : α) (post : List α) (e : DL.Env), xs = pre ++ x :: post → P pre e → ∃ e2, ((G (.p (dd x)) e).bind F = some (.nx, e2) ∨ (G (.p (dd x)) e).bind F = some (.ct, e2)) ∧ P (pre ++ [x]) e2) :
    ∃ e', loopD G F (xs.map dd) env = some (.nx, e') ∧ P xs e' := by
  have := loop_img (G := G) (F := F) dd P xs [] env h0 (by simpa using hs)
  simpa using this
/-- .. over 0, 1, .. -/
theorem loop_rng (P : Nat → DL.Env → Prop) (lo : Int) : ∀ (n k : Nat) (env : DL.Env), P k env → (∀ (i : Nat) (e : DL.Env), k ≤ i → i < k + n → P i e → ∃ e2, ((G (.p (.int (lo + (i : Int)))) e).bind F = some (.nx, e2) ∨ (G (.p (.int (lo + (i : Int)))) e).bind F = some (.ct, e2)) ∧ P (i + 1) e2) →
    ∃ e', loopD G F (rngD (lo + (k : Int)) n) env = some (.nx, e') ∧ P (k + n) e'
  | 0, k, env, h0, _ => ⟨env, rfl, h0⟩
  | n + 1, k, env, h0, hs => by
    obtain ⟨e2, h1, h2⟩ := hs k env (Nat.le_refl _) (by omega) h0
    obtain ⟨e', h3, h4⟩ := loop_rng P lo n (k + 1) e2 h2 fun i e a b => hs i e (by omega) (by omega)
    refine ⟨e', ?_, by rw [show k + (n + 1) = k + 1 + n by omega]; exact h4⟩
    rw [rngD_cons, show lo + (k : Int) + 1 = lo + ((k + 1 : Nat) : Int) by omega]
    rcases h1 with h1 | h1
    · exact loop_nx h1 h3
    · exact loop_ct h1 h3
theorem loop_rng0 (P : Nat → DL.Env → Prop) (n : Nat) {env : DL.Env} (h0 : P 0 env) (hs : ∀ (i : Nat) (e : DL.Env), i < n → P i e → ∃ e2, ((G (.p (.int (i : Int))) e).bind F = some (.nx, e2) ∨ (G (.p (.int (i : Int))) e).bind F = some (.ct, e2)) ∧ P (i + 1) e2) :
    ∃ e', loopD G F (rngD 0 n) env = some (.nx, e') ∧ P n e' := by
  have := loop_rng (G := G) (F := F) P 0 n 0 env h0 (fun i e _ h => by
    have := hs i e (by omega)
    simpa using this)
  simpa using this
/-- .. over enumerate -/
theorem loop_enum {α : Type} (dd : α → D) (P : List α → DL.Env → Prop) : ∀ (xs done : List α) (env : DL.Env), P done env → (∀ (pre : List α) (x : α) (post : List α) (e : DL.Env), done ++ xs = pre ++ x :: post → P pre e → ∃ e2, ((G (.p (.tup [.int (pre.length : Int), dd x])) e).bind F = some (.nx, e2) ∨ (G (.p (.tup [.int (pre.length : Int), dd x])) e).bind F = some (.ct, e2)) ∧ P (pre ++ [x]) e2) →
    ∃ e', loopD G F (enumD done.length (xs.map dd)) env = some (.nx, e') ∧ P (done ++ xs) e'
  | [], done, env, h0, _ => ⟨env, rfl, by rw [List.append_nil]; exact h0⟩
  | x :: xs, done, env, h0, hs => by
    obtain ⟨e2, h1, h2⟩ := hs done x xs env rfl h0
    obtain ⟨e', h3, h4⟩ := loop_enum dd P xs (done ++ [x]) e2 h2 fun pre y post e hp => hs pre y post e (by rw [← hp]; simp)
    refine ⟨e', ?_, by simpa using h4⟩
    rw [List.length_append, show [x].length = 1 from rfl] at h3
    rw [List.map_cons, enumD]
    rcases h1 with h1 | h1
    · exact loop_nx h1 h3
    · exact loop_ct h1 h3
theorem loop_enum0 {α : Type} (dd : α → D) (P : List α → DL.Env → Prop) (xs : List α) {env : DL.Env} (h0 : P [] env) (hs : ∀ (pre : List α) (x : α) (post : List α) (e : DL.Env), xs = pre ++ x :: post → P pre e → ∃ e2, ((G (.p (.tup [.int (pre.length : Int), dd x])) e).bind F = some (.nx, e2) ∨ (G (.p (.tup [.int (pre.length : Int), dd x])) e).bind F = some (.ct, e2)) ∧ P (pre ++ [x]) e2) :
    ∃ e', loopD G F (enumD 0 (xs.map dd)) env = some (.nx, e') ∧ P xs e' := by
  have := loop_enum (G := G) (F := F) dd P xs [] env h0 (by simpa using hs)
  simpa using this
/-- a comprehension item by item -/
theorem comp_ev {α : Type} (dd : α → D) (f : α → T) (xs : List α) (h : ∀ x ∈ xs, ∀ (r : List T) (rest : List D), compD own G c el rest env = some (r, env) → compD own G c el (dd x :: rest) env = some (f x :: r, env)) : compD own G c el (xs.map dd) env = some (xs.map f, env) := by
  induction xs with
  | nil => rfl
  | cons x xs ih => exact h x (by simp) _ _ (ih fun y hy => h y (by simp [hy]))
theorem comp_evF {α : Type} (dd : α → D) (p : α → Bool) (f : α → T) (xs : List α) (h : ∀ x ∈ xs, ∀ (r : List T) (rest : List D), compD own G c el rest env = some (r, env) → compD own G c el (dd x :: rest) env = some (if p x = true then f x :: r else r, env)) : compD own G c el (xs.map dd) env = some ((xs.filter p).map f, env) := by
  induction xs with
  | nil => rfl
  | cons x xs ih =>
    rw [List.map_cons, h x (by simp) _ _ (ih fun y hy => h y (by simp [hy]))]
    cases hp : p x with
    | true => rw [List.filter_cons_of_pos hp]; simp
    | false => rw [List.filter_cons_of_neg (by simp [hp])]; simp
/-- .. over 0, 1, .. -/
theorem comp_rng (f : Int → T) : ∀ (n : Nat) (lo : Int), (∀ (i : Int) (r : List T) (rest : List D), lo ≤ i → i < lo + n → compD own G c el rest env = some (r, env) → compD own G c el (.int i :: rest) env = some (f i :: r, env)) → compD own G c el (rngD lo n) env = some ((List.range n).map (fun (k : Nat) => f (lo + (k : Int))), env)
  | 0, lo, _ => rfl
  | n + 1, lo, h => by
    have ih := comp_rng f n (lo + 1) fun i r rest a b => h i r rest (by omega) (by omega)
    rw [rngD_cons, h lo _ _ (Int.le_refl _) (by omega) ih, List.range_succ_eq_map, List.map_cons, List.map_map]
    congr 3
    · simp
    · apply List.map_congr_left
      intro k _
      show f (lo + 1 + (k : Int)) = f (lo + ((k + 1 : Nat) : Int))
      congr 1; omega
end
/-- a piece of a list -/
def cutA {α : Type} (xs : List α) (lo hi : Option Int) : List α := (xs.drop (HT.sIx xs.length 0 lo)).take (HT.sIx xs.length xs.length hi - HT.sIx xs.length 0 lo)
theorem cutD_map {α : Type} (dd : α → D) (xs : List α) (lo hi : Option Int) : cutD (xs.map dd) lo hi = (cutA xs lo hi).map dd := by
  unfold cutD cutA
  rw [List.length_map, ← List.map_drop, ← List.map_take]
theorem cutA_mem {α : Type} {xs : List α} {lo hi : Option Int} {x : α} (h : x ∈ cutA xs lo hi) : x ∈ xs := List.mem_of_mem_drop (List.mem_of_mem_take h)
theorem cutA_len {α : Type} (xs : List α) (lo hi : Option Int) : (cutA xs lo hi).length ≤ xs.length := by
  unfold cutA
  rw [List.length_take, List.length_drop]; omega
theorem cutA_len2 {α : Type} (xs : List α) {lo hi : Int} (h0 : 0 ≤ lo) (h1 : lo ≤ hi) : (cutA xs (some lo) (some hi)).length ≤ (hi - lo).toNat := by
  unfold cutA
  rw [List.length_take, List.length_drop, sIx_i h0, sIx_i (by omega)]; omega
theorem toDs_map2 {α : Type} (f : α → T) (g : α → D) (xs : List α) (h : ∀ x ∈ xs, (f x).toD = g x) : T.toDs (xs.map f) = xs.map g := by
  rw [toDs_map, List.map_map]
  exact List.map_congr_left h
theorem toKs_pairs (k : List (Key × D)) : T.toKs (pairsT k) = k := D.dic.inj (toD_d k)
end DL

set_option Elab.async false
set_option linter.all false
set_option maxRecDepth 100000
set_option maxHeartbeats 2000000
/-! zip of a text (signs below 128) and a list. -/
namespace ZG
open PySem PySem.Spec PyProof.Rows L2
open PySem.Sem (wp)
/-- an iterator's next thing -/
def Gv (P : Program) (w : World) (i : Addr) (S S' : Heap → Prop) (V : Value → Prop) : Prop := ∀ (A : Around) (E : Value → Shared → Prop) (s : Shared) (Q : Value → Shared → Prop), S s.heap →
  (∀ v h' tk, V v → S' h' → Heap.SameBut i s.heap h' → Q v { s with heap := h', toks := tk }) → wpAny (model P w) A (Builtin.SmallTypes.nextOf (.ref i)) Q E s
/-- .. its end -/
def Gn (P : Program) (w : World) (i : Addr) (S : Heap → Prop) : Prop := ∀ (A : Around) (E : Value → Shared → Prop) (s : Shared) (Q : Value → Shared → Prop), A.handled = none → S s.heap →
  (∀ h' e, Heap.ExtBut i s.heap h' → (∃ o, h'.get? e = some o ∧ o.cls = .type "StopIteration") → E (.ref e) { s with heap := h' }) → wpAny (model P w) A (Builtin.SmallTypes.nextOf (.ref i)) Q E s
/-- it looks at some objects alone -/
def Lk (dep : List Addr) (S : Heap → Prop) : Prop := ∀ h h' : Heap, (∀ c ∈ dep, ∀ o, h.get? c = some o → h'.get? c = some o) → S h → S h'
structure Far (z TI TO i1 i2 : Addr) (d1 d2 : List Addr) : Prop where
  TIz : TI ≠ z
  TOz : TO ≠ z
  i1z : i1 ≠ z
  i2z : i2 ≠ z
  TITO : TI ≠ TO
  TIi1 : TI ≠ i1
  TIi2 : TI ≠ i2
  TOi1 : TO ≠ i1
  TOi2 : TO ≠ i2
  d1z : ∀ c ∈ d1, c ≠ z
  d1TO : ∀ c ∈ d1, c ≠ TO
  d1i2 : ∀ c ∈ d1, c ≠ i2
  d2z : ∀ c ∈ d2, c ≠ z
  d2TO : ∀ c ∈ d2, c ≠ TO
  d2i1 : ∀ c ∈ d2, c ≠ i1
section
variable {P : Program} {w : World} {A : Around} {E : Value → Shared → Prop} {s : Shared} {z TI TO i1 i2 : Addr} {d1 d2 : List Addr} {S1 S1' S2 S2' : Heap → Prop} {V1 V2 : Value → Prop} {a b : Value}
theorem zg_item {Q : Value → Shared → Prop} (D : Far z TI TO i1 i2 d1 d2) (g1 : Gv P w i1 S1 S1' V1) (g2 : Gv P w i2 S2 S2' V2) (k1' : Lk d1 S1) (k1 : Lk d1 S1') (k2 : Lk d2 S2) (k2' : Lk d2 S2')
    (qz : IsZip s.heap z TI TO .none) (qI : IsPair s.heap TI (.ref i1) (.ref i2)) (qO : IsPair s.heap TO a b) (q1 : S1 s.heap) (q2 : S2 s.heap)
    (fin : ∀ x y h' tk, V1 x → V2 y → IsZip h' z TI TO (rawInt s.heap.objs.size) → IsPair h' TO x y → S1' h' → S2' h' → IsPair h' s.heap.objs.size x y → h'.objs.size = s.heap.objs.size + 1 →
      (∀ c o, c ≠ z → c ≠ TO → c ≠ i1 → c ≠ i2 → s.heap.get? c = some o → h'.get? c = some o) → Q (.ref s.heap.objs.size) { s with heap := h', toks := tk }) :
    wpAny (model P w) A (Builtin.«zip.__next__» ⟨[.ref z], []⟩) (fun r s' => ∃ v, r = .done (.ret v) ∧ Q v s') E s := by
  show wpAny _ _ (field (.ref z) 2 >>= _) _ _ _; refine wpAny_bind (wpAny_field qz rfl (x := .bool false) rfl ?_)
  show wpAny _ _ (field (.ref z) 3 >>= _) _ _ _; refine wpAny_bind (wpAny_field qz rfl (x := .ref TI) rfl ?_)
  refine wpAny_bind (wpAny_seqItems qI rfl ?_)
  show wpAny _ _ (Builtin.SmallTypes.ownedTupleIsFree (.ref z) >>= _) _ _ _; refine wpAny_bind ?_; unfold Builtin.SmallTypes.ownedTupleIsFree
  refine wpAny_bind (wpAny_field qz rfl (x := .none) rfl (wpAny_pure ?_)); simp only [if_true]; refine wpAny_bind (wpAny_rule ?_)
  refine wpAny_bind (wpAny_field qz rfl (x := .ref TO) rfl ?_)
  refine wpAny_bind (wpAny_setField_rec qz (by simp) fun ha qza sa => ?_)
  replace qza : IsZip ha z TI TO .ellipsis := qza
  refine wpAny_bind ?_; simp only [List.zipIdx_cons, List.zipIdx_nil, List.forIn_cons, List.forIn_nil]; refine wpAny_bind (wpAny_bind (wpAny_onRaise ?_))
  show wpAny _ _ (Builtin.SmallTypes.nextOf (.ref i1) >>= _) _ _ _
  refine wpAny_bind (g1 _ _ _ _ (k1' _ _ (fun c hc o e => sa.extBut c o (D.d1z c hc) e) q1) fun x hb tb vx qb sb => wpAny_pure ?_)
  have qOb : IsPair hb TO a b := sb.extBut _ _ D.TOi1 (sa.extBut _ _ D.TOz qO)
  refine wpAny_bind (wpAny_seqItems qOb rfl ?_)
  refine wpAny_bind (wpAny_updateSeq_pair qOb fun hc qOc sc => ?_)
  replace qOc : IsPair hc TO x b := qOc
  refine wpAny_bind (wpAny_letGo (wpAny_pure ?_)); refine wpAny_bind (wpAny_bind (wpAny_onRaise ?_))
  show wpAny _ _ (Builtin.SmallTypes.nextOf (.ref i2) >>= _) _ _ _
  refine wpAny_bind (g2 _ _ _ _ (k2 _ _ (fun c hm o e => sc.extBut c o (D.d2TO c hm) (sb.extBut c o (D.d2i1 c hm) (sa.extBut c o (D.d2z c hm) e))) q2) fun y hd td vy qd sd => wpAny_pure ?_)
  have qOd : IsPair hd TO x b := sd.extBut _ _ D.TOi2 qOc
  refine wpAny_bind (wpAny_seqItems qOd rfl ?_)
  refine wpAny_bind (wpAny_updateSeq_pair qOd fun he qOe se => ?_)
  replace qOe : IsPair he TO x y := qOe
  refine wpAny_bind (wpAny_letGo (wpAny_pure (wpAny_pure ?_))); refine wpAny_bind (wpAny_seqItems qOe rfl ?_); refine wpAny_bind (wpAny_newTuple ?_)
  have size5 : he.objs.size = s.heap.objs.size := by rw [se.1, sd.1, sc.1, sb.1, sa.1]
  have qze : IsZip he z TI TO .ellipsis := se.extBut _ _ D.TOz.symm (sd.extBut _ _ D.i2z.symm (sc.extBut _ _ D.TOz.symm (sb.extBut _ _ D.i1z.symm qza)))
  have keepE : ∀ c o, c ≠ z → c ≠ TO → c ≠ i1 → c ≠ i2 → s.heap.get? c = some o → he.get? c = some o := fun c o n1 n2 n3 n4 e =>
    se.extBut _ _ n2 (sd.extBut _ _ n4 (sc.extBut _ _ n2 (sb.extBut _ _ n3 (sa.extBut _ _ n1 e))))
  have q1e : S1' he := k1 _ _ (fun c hm o e => se.extBut c o (D.d1TO c hm) (sd.extBut c o (D.d1i2 c hm) (sc.extBut c o (D.d1TO c hm) e))) qb
  have q2e : S2' he := k2' _ _ (fun c hm o e => se.extBut c o (D.d2TO c hm) e) qd
  have zlt : z < he.objs.size := Heap.lt_size qze
  show wpAny _ _ (Builtin.SmallTypes.ownedTupleHandOut (.ref z) (.ref he.objs.size) >>= _) _ _ _; refine wpAny_bind ?_; unfold Builtin.SmallTypes.ownedTupleHandOut
  have qzf : IsZip (he.push { cls := .type "tuple", data := .seq #[x, y] }) z TI TO .ellipsis := Heap.get?_push_of_some _ qze
  refine wpAny_bind (wpAny_setField_rec qzf (by simp) fun hg qzg sg' => ?_)
  replace qzg : IsZip hg z TI TO (rawInt he.objs.size) := qzg
  refine wpAny_setField_rec qzg (by simp) fun hh qzh sh => ?_
  replace qzh : IsZip hh z TI TO (rawInt he.objs.size) := qzh
  have up : ∀ c o, c ≠ z → he.get? c = some o → hh.get? c = some o := fun c o n1 e => sh.extBut _ _ n1 (sg'.extBut _ _ n1 (Heap.get?_push_of_some _ e))
  have qT : IsPair hh he.objs.size x y := sh.extBut _ _ (Nat.ne_of_gt zlt) (sg'.extBut _ _ (Nat.ne_of_gt zlt) (Heap.get?_push_size _ rfl))
  have sz8 : hh.objs.size = he.objs.size + 1 := by rw [sh.1, sg'.1, Heap.size_push]
  rw [size5] at qzh qT sz8
  refine wpAny_pure ⟨_, rfl, ?_⟩
  show Q (.ref he.objs.size) _; rw [size5]
  exact fin x y hh _ vx vy qzh (up _ _ D.TOz qOe) (k1 _ _ (fun c hm o e => up c o (D.d1z c hm) e) q1e) (k2' _ _ (fun c hm o e => up c o (D.d2z c hm) e) q2e) qT sz8 fun c o n1 n2 n3 n4 e => up c o n1 (keepE c o n1 n2 n3 n4 e)
theorem zg_end {Q : Fin → Shared → Prop} (ho : A.handled = none) (D : Far z TI TO i1 i2 d1 d2) (hend : Gn P w i1 S1 ∨ (Gv P w i1 S1 S1' V1 ∧ Gn P w i2 S2)) (k1 : Lk d1 S1) (k2 : Lk d2 S2)
    (qz : IsZip s.heap z TI TO .none) (qI : IsPair s.heap TI (.ref i1) (.ref i2)) (qO : IsPair s.heap TO a b) (q1 : S1 s.heap) (q2 : S2 s.heap)
    (fin : ∀ h' e tk, (∀ c o, c ≠ z → c ≠ TO → c ≠ i1 → c ≠ i2 → s.heap.get? c = some o → h'.get? c = some o) → (∃ o, h'.get? e = some o ∧ o.cls = .type "StopIteration") → E (.ref e) { s with heap := h', toks := tk }) :
    wpAny (model P w) A (Builtin.«zip.__next__» ⟨[.ref z], []⟩) Q E s := by
  show wpAny _ _ (field (.ref z) 2 >>= _) _ _ _; refine wpAny_bind (wpAny_field qz rfl (x := .bool false) rfl ?_)
  show wpAny _ _ (field (.ref z) 3 >>= _) _ _ _; refine wpAny_bind (wpAny_field qz rfl (x := .ref TI) rfl ?_)
  refine wpAny_bind (wpAny_seqItems qI rfl ?_)
  show wpAny _ _ (Builtin.SmallTypes.ownedTupleIsFree (.ref z) >>= _) _ _ _; refine wpAny_bind ?_; unfold Builtin.SmallTypes.ownedTupleIsFree
  refine wpAny_bind (wpAny_field qz rfl (x := .none) rfl (wpAny_pure ?_)); simp only [if_true]; refine wpAny_bind (wpAny_rule ?_)
  refine wpAny_bind (wpAny_field qz rfl (x := .ref TO) rfl ?_)
  refine wpAny_bind (wpAny_setField_rec qz (by simp) fun ha qza sa => ?_)
  replace qza : IsZip ha z TI TO .ellipsis := qza
  refine wpAny_bind ?_; simp only [List.zipIdx_cons, List.zipIdx_nil, List.forIn_cons, List.forIn_nil]; refine wpAny_bind (wpAny_bind (wpAny_onRaise ?_))
  show wpAny _ _ (Builtin.SmallTypes.nextOf (.ref i1) >>= _) _ _ _
  have q1a : S1 ha := k1 _ _ (fun c hc o e => sa.extBut c o (D.d1z c hc) e) q1
  rcases hend with n1 | ⟨g1, n2⟩
  · refine wpAny_bind (n1 _ _ _ _ ho q1a fun hb e sb st => ?_)
    obtain ⟨oe, hoe, hce⟩ := st
    have qzb : IsZip hb z TI TO .ellipsis := sb _ _ D.i1z.symm qza
    have ez : e ≠ z := fun x => by subst x; rw [qzb] at hoe; cases hoe; simp at hce
    refine wpAny_setField_rec qzb (by simp) fun hc _ sc => fin hc e _ (fun c o m1 _ m3 _ x => sc.extBut _ _ m1 (sb _ _ m3 (sa.extBut _ _ m1 x))) ⟨oe, sc.extBut _ _ ez hoe, hce⟩
  · refine wpAny_bind (g1 _ _ _ _ q1a fun x hb tb vx qb sb => wpAny_pure ?_)
    have qOb : IsPair hb TO a b := sb.extBut _ _ D.TOi1 (sa.extBut _ _ D.TOz qO)
    refine wpAny_bind (wpAny_seqItems qOb rfl ?_)
    refine wpAny_bind (wpAny_updateSeq_pair qOb fun hc qOc sc => ?_)
    refine wpAny_bind (wpAny_letGo (wpAny_pure ?_)); refine wpAny_bind (wpAny_bind (wpAny_onRaise ?_))
    show wpAny _ _ (Builtin.SmallTypes.nextOf (.ref i2) >>= _) _ _ _
    refine wpAny_bind (n2 _ _ _ _ ho (k2 _ _ (fun c hm o e => sc.extBut c o (D.d2TO c hm) (sb.extBut c o (D.d2i1 c hm) (sa.extBut c o (D.d2z c hm) e))) q2) fun hd e sd st => ?_)
    obtain ⟨oe, hoe, hce⟩ := st
    have qzd : IsZip hd z TI TO .ellipsis := sd _ _ D.i2z.symm (sc.extBut _ _ D.TOz.symm (sb.extBut _ _ D.i1z.symm qza))
    have ez : e ≠ z := fun x => by subst x; rw [qzd] at hoe; cases hoe; simp at hce
    refine wpAny_setField_rec qzd (by simp) fun hf _ sf => fin hf e _ (fun c o m1 m2 m3 m4 x => sf.extBut _ _ m1 (sd _ _ m4 (sc.extBut _ _ m2 (sb.extBut _ _ m3 (sa.extBut _ _ m1 x))))) ⟨oe, sf.extBut _ _ ez hoe, hce⟩
theorem nx_item {Q : Option Value → Shared → Prop} (D : Far z TI TO i1 i2 d1 d2) (g1 : Gv P w i1 S1 S1' V1) (g2 : Gv P w i2 S2 S2' V2) (k1' : Lk d1 S1) (k1 : Lk d1 S1') (k2 : Lk d2 S2) (k2' : Lk d2 S2')
    (qz : IsZip s.heap z TI TO .none) (qI : IsPair s.heap TI (.ref i1) (.ref i2)) (qO : IsPair s.heap TO a b) (q1 : S1 s.heap) (q2 : S2 s.heap)
    (fin : ∀ x y h' tk, V1 x → V2 y → IsZip h' z TI TO (rawInt s.heap.objs.size) → IsPair h' TO x y → S1' h' → S2' h' → IsPair h' s.heap.objs.size x y → h'.objs.size = s.heap.objs.size + 1 →
      (∀ c o, c ≠ z → c ≠ TO → c ≠ i1 → c ≠ i2 → s.heap.get? c = some o → h'.get? c = some o) → Q (some (.ref s.heap.objs.size)) { s with heap := h', toks := tk }) : wpAny (model P w) A (pyNext (.ref z)) Q E s := by
  have ty : s.TypeIs (.ref z) "zip" := ⟨_, qz, rfl⟩
  unfold pyNext
  exact wpAny_bind (wpAny_attempt (wpAny_callSpecial?_slot (name := Str.ofString "__next__") ty F.slot_zip_next (wpAny_call_entry F.slot_zip_next ty F.entry_zip_next
    (zg_item D g1 g2 k1' k1 k2 k2' qz qI qO q1 q2 fun x y h' tk m1 m2 m3 m4 m5 m6 m7 m8 m9 => wpAny_pure (fin x y h' tk m1 m2 m3 m4 m5 m6 m7 m8 m9)) (F.args_zip_next_1 _))))
theorem nx_end {Q : Option Value → Shared → Prop} (ho : A.handled = none) (D : Far z TI TO i1 i2 d1 d2) (hend : Gn P w i1 S1 ∨ (Gv P w i1 S1 S1' V1 ∧ Gn P w i2 S2)) (k1 : Lk d1 S1) (k2 : Lk d2 S2)
    (qz : IsZip s.heap z TI TO .none) (qI : IsPair s.heap TI (.ref i1) (.ref i2)) (qO : IsPair s.heap TO a b) (q1 : S1 s.heap) (q2 : S2 s.heap)
    (fin : ∀ h' tk, (∀ c o, c ≠ z → c ≠ TO → c ≠ i1 → c ≠ i2 → s.heap.get? c = some o → h'.get? c = some o) → Q none { s with heap := h', toks := tk }) : wpAny (model P w) A (pyNext (.ref z)) Q E s := by
  have ty : s.TypeIs (.ref z) "zip" := ⟨_, qz, rfl⟩
  unfold pyNext
  refine wpAny_bind (wpAny_attempt (wpAny_callSpecial?_slot (name := Str.ofString "__next__") ty F.slot_zip_next (wpAny_call_entry F.slot_zip_next ty F.entry_zip_next
    (zg_end ho D hend k1 k2 qz qI qO q1 q2 fun h' e tk hk he => ?_) (F.args_zip_next_1 _))))
  obtain ⟨o, go, gc⟩ := he
  exact wpAny_bind (wpAny_isInstance (T := "StopIteration") (b := true) ⟨o, go, gc⟩ isSubtype_stop (wpAny_pure (fin _ _ hk)))
end
/-! ### a text and a list -/
theorem gv_str {P : Program} {w : World} {i : Addr} {x : Str} {t : Tok} {k c : Nat} (hx : x.cps[k]? = some c) : Gv P w i (fun h => h.IsStrIter i "str_ascii_iterator" x t k) (fun h => h.IsStrIter i "str_ascii_iterator" x t (k + 1)) (fun v => ∃ u, v = .str ⟨#[c]⟩ u) :=
  fun _ _ _ _ st q => wpAny_nextOf_ascii_item st hx fun h' st' sb => q _ h' _ ⟨_, rfl⟩ st' sb
theorem gn_str {P : Program} {w : World} {i : Addr} {x : Str} {t : Tok} {k : Nat} (hx : x.cps[k]? = none) : Gn P w i (fun h => h.IsStrIter i "str_ascii_iterator" x t k) :=
  fun _ _ _ _ ho st q => wpAny_nextOf_ascii_end ho st hx q
theorem lk_str {i : Addr} {x : Str} {t : Tok} {k : Nat} : Lk [i] (fun h => h.IsStrIter i "str_ascii_iterator" x t k) := fun h h' kp st => by
  obtain ⟨o, ho, r⟩ := st
  exact ⟨o, kp i (by simp) o ho, r⟩
theorem gv_lst {P : Program} {w : World} {i l : Addr} {ys : Array Value} {k : Nat} {y : Value} (hil : l ≠ i) (hy : ys[k]? = some y) : Gv P w i (fun h => h.IsListIter i l k ∧ h.IsList l ys) (fun h => h.IsListIter i l (k + 1) ∧ h.IsList l ys) (fun v => v = y) :=
  fun _ _ _ _ st q => wpAny_nextOf_list_item st.1 st.2 hy fun h' st' sb => q _ h' _ rfl ⟨st', st.2.extBut sb.extBut hil⟩ sb
theorem gn_lst {P : Program} {w : World} {i l : Addr} {ys : Array Value} {k : Nat} (hy : ys[k]? = none) : Gn P w i (fun h => h.IsListIter i l k ∧ h.IsList l ys) :=
  fun _ _ _ _ ho st q => wpAny_nextOf_list_end ho st.1 st.2 hy q
theorem lk_lst {i l : Addr} {ys : Array Value} {k : Nat} : Lk [i, l] (fun h => h.IsListIter i l k ∧ h.IsList l ys) := fun h h' kp st =>
  ⟨st.1.at fun o e => kp i (by simp) o e, st.2.at fun o e => kp l (by simp) o e⟩
def ItZ (K : PySem.W.Frag) (x : Str) (b : Addr) : It :=
  ⟨fun i H => i < x.cps.size ∧ ∃ (ys : List V) (y : V), SqL K H b ys ∧ ys[i]? = some y,
    fun i H v H' => ∃ (tt : Addr) (c : Nat) (y : V), v = .ref tt ∧ H tt = none ∧ H' = upd H tt (.tup [.str ⟨#[c]⟩, y]) ∧ x.cps[i]? = some c ∧ ∀ ys, SqL K H b ys → ys[i]? = some y,
    fun i H => (∃ ys : List V, SqL K H b ys) ∧ (x.cps.size ≤ i ∨ ∃ ys : List V, SqL K H b ys ∧ ys.length ≤ i)⟩
def chainZ (n : Nat) : List Addr := [n + 4, n + 2, n + 3, n, n + 1]
theorem far_new (n b : Nat) (h : b < n) : Far (n + 4) (n + 2) (n + 3) n (n + 1) [n] [n + 1, b] := by
  have one : ∀ {p : Nat → Prop} {x : Nat}, p x → ∀ c ∈ [x], p c := fun {p x} hp c hc => by rw [List.mem_singleton.mp hc]; exact hp
  have two : ∀ {p : Nat → Prop} {x y : Nat}, p x → p y → ∀ c ∈ [x, y], p c := fun {p x y} hp hq c hc => by
    rcases List.mem_cons.mp hc with rfl | hc
    · exact hp
    · rw [List.mem_singleton.mp hc]; exact hq
  have ne : ∀ {x y : Nat}, (x < y ∨ y < x) → x ≠ y := fun h e => by omega
  exact ⟨ne (by omega), ne (by omega), ne (by omega), ne (by omega), ne (by omega), ne (by omega), ne (by omega), ne (by omega), ne (by omega),
    one (ne (by omega)), one (ne (by omega)), one (ne (by omega)), two (ne (by omega)) (ne (by omega)), two (ne (by omega)) (ne (by omega)), two (ne (by omega)) (ne (by omega))⟩
/-- how the zip object, its parts, its iterators stand -/
structure StZ (x : Str) (t : Tok) (b : Addr) (n k : Nat) (h : Heap) : Prop where
  zp : IsZip h (n + 4) (n + 2) (n + 3) .none
  pI : IsPair h (n + 2) (.ref n) (.ref (n + 1))
  pO : ∃ u v, IsPair h (n + 3) u v
  si : h.IsStrIter n "str_ascii_iterator" x t k
  li : h.IsListIter (n + 1) b k
theorem StZ.there {x : Str} {t : Tok} {b : Addr} {n k : Nat} {h : Heap} (S : StZ x t b n k h) : ∀ c ∈ chainZ n, ∃ o, h.get? c = some o ∧ ∀ v, o.data ≠ .cell v := fun c hc => by
  obtain ⟨u, v, pO⟩ := S.pO
  obtain ⟨o1, g1, _, d1⟩ := S.si
  obtain ⟨o2, g2, _, d2⟩ := S.li
  simp only [chainZ, List.mem_cons, List.not_mem_nil, or_false] at hc
  rcases hc with rfl | rfl | rfl | rfl | rfl
  · exact ⟨_, S.zp, fun _ q => nomatch q⟩
  · exact ⟨_, S.pI, fun _ q => nomatch q⟩
  · exact ⟨_, pO, fun _ q => nomatch q⟩
  · exact ⟨o1, g1, fun _ q => by rw [d1] at q; cases q⟩
  · exact ⟨o2, g2, fun _ q => by rw [d2] at q; cases q⟩
theorem turnZ {P : Program} {w : World} {K : PySem.W.Frag} {elts : List Expr} {kk : Nat} {tpos : Pos} {x : Str} {t : Tok} {b n : Addr} (hbn : (b : Nat) < n) :
    Turn P w K (.Tuple elts kk tpos) (ItZ K x b) (chainZ n) (n + 4) (fun k h => StZ x t b n k h) where
  mem := by simp [chainZ]
  obj := fun i h st c hc => st.there c hc
  keep := fun i h h' st kp => by
    obtain ⟨u, v, pO⟩ := st.pO
    exact ⟨kp _ (by simp [chainZ]) _ st.zp, kp _ (by simp [chainZ]) _ st.pI, ⟨u, v, kp _ (by simp [chainZ]) _ pO⟩, lk_str _ _ (fun c hc o e => kp c (by rw [List.mem_singleton.mp hc]; simp [chainZ]) o e) st.si, st.li.at fun o e => kp _ (by simp [chainZ]) o e⟩
  item := by
    intro X eP eW eK calm i pins s σ H E I hf st go
    subst eP eW eK
    obtain ⟨hlt, ys, y, hqy, hy⟩ := go
    obtain ⟨its, rv, p, _⟩ := I.list hqy
    obtain ⟨u2, hu2, ru2⟩ := rv.get hy
    obtain ⟨u, v, pO⟩ := st.pO
    have zl : n + 4 < s.heap.objs.size := Heap.lt_size st.zp
    have D := far_new n b hbn
    have bi : (b : Nat) ≠ n + 1 := Nat.ne_of_lt (Nat.lt_succ_of_lt hbn)
    refine nx_item D (gv_str (Array.getElem?_eq_getElem hlt)) (gv_lst (ys := its.toArray) (y := u2) bi (by simpa using hu2)) lk_str lk_str lk_lst lk_lst st.zp st.pI pO st.si ⟨st.li, p.isList⟩ fun vx vy h' tk ⟨tu, ex⟩ ey z' pO' s1' s2' hT hsz hk => ?_
    subst ex ey
    refine ⟨_, rfl, wpAny_letOwnedTupleGo_zip (s := { s with heap := h', toks := tk }) z' fun h'' z'' sb => ?_⟩
    have hT2 : h''.get? s.heap.objs.size = some { cls := .type "tuple", data := .seq #[.str ⟨#[x.cps[i]]⟩ tu, vy] } := (sb.2 _ (Nat.ne_of_gt zl)).trans hT
    have new : ObjOk X.prog X.w (upd H s.heap.objs.size (.tup [.str ⟨#[x.cps[i]]⟩, y])) h'' s.heap.objs.size (.tup [.str ⟨#[x.cps[i]]⟩, y]) :=
      ⟨by show 2 ≤ sizeLine; decide, [_, vy], .cons ⟨tu, rfl⟩ (.cons ru2 .nil), ⟨_, hT2, rfl, _, rfl⟩⟩
    have far : ∀ {c : Addr}, c ∉ chainZ n → c ≠ n + 4 ∧ c ≠ n + 3 ∧ c ≠ n ∧ c ≠ n + 1 := fun {c} hb => ⟨fun e => hb (by rw [e]; simp [chainZ]), fun e => hb (by rw [e]; simp [chainZ]), fun e => hb (by rw [e]; simp [chainZ]), fun e => hb (by rw [e]; simp [chainZ])⟩
    have I1 : Inv X pins σ (upd H s.heap.objs.size (.tup [.str ⟨#[x.cps[i]]⟩, y])) { s with heap := h'', toks := tk } :=
      I.turnedNew (t' := tk) (ch := chainZ n) (fun c o hb q => (sb.2 c (far hb).1).trans (hk c o (far hb).1 (far hb).2.1 (far hb).2.2.1 (far hb).2.2.2 q)) hf (Nat.le_refl _) new
    refine ⟨.ref s.heap.objs.size, _, I1, rfl, ⟨_, x.cps[i], y, rfl, I.hok.fresh (Nat.le_refl _), rfl, Array.getElem?_eq_getElem hlt, fun l hl => by rw [I.list_inj hl hqy]; exact hy⟩, ⟨z'', (sb.2 _ D.TIz).trans (hk _ _ D.TIz D.TITO D.TIi1 D.TIi2 st.pI), ⟨_, vy, (sb.2 _ D.TOz).trans pO'⟩, lk_str _ _ (fun c hc o e => (sb.2 c (by rw [List.mem_singleton.mp hc]; exact D.i1z)).trans e) s1', s2'.1.at fun o q => (sb.2 _ D.i2z).trans q⟩, fun c hcm => ?_⟩
    obtain ⟨o, ho, _⟩ := st.there c hcm
    rw [upd_ne (Nat.ne_of_lt (Heap.lt_size ho))]
    exact (hf c hcm).1
  done := by
    intro X eP eW eK calm i pins s σ H E I hf st go
    subst eP eW eK
    obtain ⟨⟨ys, hqy⟩, hend⟩ := go
    obtain ⟨its, rv, p, _⟩ := I.list hqy
    have ln := rv.length
    obtain ⟨u, v, pO⟩ := st.pO
    have far : ∀ {c : Addr}, c ∉ chainZ n → c ≠ n + 4 ∧ c ≠ n + 3 ∧ c ≠ n ∧ c ≠ n + 1 := fun {c} hb => ⟨fun e => hb (by rw [e]; simp [chainZ]), fun e => hb (by rw [e]; simp [chainZ]), fun e => hb (by rw [e]; simp [chainZ]), fun e => hb (by rw [e]; simp [chainZ])⟩
    have bi : (b : Nat) ≠ n + 1 := Nat.ne_of_lt (Nat.lt_succ_of_lt hbn)
    have two : Gn X.prog X.w n (fun h => h.IsStrIter n "str_ascii_iterator" x t i) ∨ (Gv X.prog X.w n (fun h => h.IsStrIter n "str_ascii_iterator" x t i) (fun h => h.IsStrIter n "str_ascii_iterator" x t (i + 1)) (fun v => ∃ u, v = .str ⟨#[x.cps.getD i 0]⟩ u) ∧ Gn X.prog X.w (n + 1) (fun h => h.IsListIter (n + 1) b i ∧ h.IsList b its.toArray)) := by
      by_cases hlt : i < x.cps.size
      · refine .inr ⟨gv_str (by rw [Array.getElem?_eq_getElem hlt]; simp [hlt]), gn_lst ?_⟩
        rcases hend with q | ⟨ys', q1, q2⟩
        · omega
        · rw [I.list_inj q1 hqy] at q2
          simp; omega
      · exact .inl (gn_str (Array.getElem?_eq_none (by omega)))
    exact nx_end (I.ok.hd calm) (far_new n b hbn) two lk_str lk_lst st.zp st.pI pO st.si ⟨st.li, p.isList⟩ fun h' tk hk => ⟨rfl, I.turnedL (t' := tk) (ch := chainZ n) (fun c o hb q => hk c o (far hb).1 (far hb).2.1 (far hb).2.2.1 (far hb).2.2.2 q) hf⟩
  self := fun A i s Q E st h => wpAny_pyIter_zip st.zp h
/-! ### zip(text, list) is made -/
abbrev hz1 (h : Heap) (x : Str) (t : Tok) : Heap := h.push { cls := .type "str_ascii_iterator", data := .fields #[.str x t, .int 0 0] }
abbrev hz2 (h : Heap) (x : Str) (t : Tok) (b : Addr) : Heap := (hz1 h x t).push { cls := .type "list_iterator", data := .fields #[.ref b, .int 0 0] }
abbrev hz3 (h : Heap) (x : Str) (t : Tok) (b : Addr) : Heap := (hz2 h x t b).push { cls := .type "tuple", data := .seq #[.ref h.objs.size, .ref (hz1 h x t).objs.size] }
abbrev hz4 (h : Heap) (x : Str) (t : Tok) (b : Addr) : Heap := (hz3 h x t b).push { cls := .type "tuple", data := .seq #[.none, .none] }
abbrev hz5 (h : Heap) (x : Str) (t : Tok) (b : Addr) : Heap := (hz4 h x t b).push { cls := .type "zip", data := .fields #[.none, .bool false, .bool false, .ref (hz2 h x t b).objs.size, .ref (hz3 h x t b).objs.size] }
theorem meets_new (x : Str) (t : Tok) (b : Addr) (ys : Array Value) (hx : x.cps.all (· < 128) = true) :
    Meets (Builtin.«zip.__new__» ⟨[.type "zip", .str x t, .ref b], []⟩) (fun _ R s => s.heap.IsList b ys ∧ R (.ok (.ret (.ref (hz4 s.heap x t b).objs.size))) { s with heap := hz5 s.heap x t b }) :=
  .of_wp fun prog w A R s h => by
    obtain ⟨hp, g, d, tk, os⟩ := s; obtain ⟨hl2, h⟩ := h
    have hsub := sub_zip
    have l2 : Heap.IsList (Shared.heap ⟨hp.push { cls := .type "str_ascii_iterator", data := .fields #[.str x t, .int 0 0] }, g, d, tk, os⟩) b ys := Heap.IsList.push hl2 _
    wp_walk using wpAny_pyIter_ascii hx, wpAny_pyIter_list l2
    exact ⟨_, rfl, h⟩
theorem call_new {P : Program} {w : World} {A : Around} {E : Value → Shared → Prop} {s : Shared} {x : Str} {t : Tok} {b : Addr} {ys : Array Value} {Q : Value → Shared → Prop} (hx : x.cps.all (· < 128) = true) (hl : s.heap.IsList b ys)
    (h : ∀ h', StZ x t b s.heap.objs.size 0 h' → (∀ c o, s.heap.get? c = some o → h'.get? c = some o) → Q (.ref (s.heap.objs.size + 4)) { s with heap := h' }) : wpAny (model P w) A (call (.type "zip") [.str x t, .ref b]) Q E s := by
  refine callType_new F.called_zip (by decide) (F.typeCall_zip_2 _ _) (F.newCall_zip_2 _ _) (fun obj => F.args_object_init_3 obj _ _) F.entry_zip_new (meets_new x t b ys hx) ⟨hl, ?_⟩
  have e1 : (hz1 s.heap x t).objs.size = s.heap.objs.size + 1 := Heap.size_push ..
  have e2 : (hz2 s.heap x t b).objs.size = s.heap.objs.size + 2 := by rw [Heap.size_push, e1]
  have e3 : (hz3 s.heap x t b).objs.size = s.heap.objs.size + 3 := by rw [Heap.size_push, e2]
  have e4 : (hz4 s.heap x t b).objs.size = s.heap.objs.size + 4 := by rw [Heap.size_push, e3]
  have up1 : ∀ {h : Heap} {o o' : Obj} {c : Addr}, h.get? c = some o' → (h.push o).get? c = some o' := fun e => Heap.get?_push_of_some _ e
  have f5 : (hz5 s.heap x t b).get? (hz4 s.heap x t b).objs.size = some _ := Heap.get?_push_size _ rfl
  have f4 : (hz5 s.heap x t b).get? (hz3 s.heap x t b).objs.size = some _ := up1 (Heap.get?_push_size _ rfl)
  have f3 : (hz5 s.heap x t b).get? (hz2 s.heap x t b).objs.size = some _ := up1 (up1 (Heap.get?_push_size _ rfl))
  have f2 : (hz5 s.heap x t b).get? (hz1 s.heap x t).objs.size = some _ := up1 (up1 (up1 (Heap.get?_push_size _ rfl)))
  have f1 : (hz5 s.heap x t b).get? s.heap.objs.size = some _ := up1 (up1 (up1 (up1 (Heap.get?_push_size _ rfl))))
  show _ ∧ _
  rw [e2, e3, e4] at f5; rw [e1, e2] at f3; rw [e3] at f4; rw [e1] at f2; rw [e4]
  exact ⟨⟨_, f5, rfl⟩, h _ ⟨f5, f3, ⟨_, _, f4⟩, ⟨_, f1, rfl, rfl⟩, ⟨_, f2, rfl, rfl⟩⟩ fun c o q => up1 (up1 (up1 (up1 (up1 q))))⟩
def iZipS (K : PySem.W.Frag) (ta : TA) : TI := fun σ H R => ta σ H fun vs H1 => ∃ x b ys, vs = [.str x, .ref b] ∧ x.cps.all (· < 128) = true ∧ SqL K H1 b ys ∧ R (ItZ K x b) H1
theorem pi_zipS {X : Cx} {e e2 : Expr} {ta : TA} {p pos tpos : Pos} {elts : List Expr} {kk : Nat} (hg : Gl X "zip") (hm : X.mg "zip" = none) (ha : PA X [e, e2] ta)
    (hs : starEach [e, e2] X.env = (false, eval e X.env) :: starEach [e2] X.env := by rfl) (hpl : (backTo pos (starEach [e2] X.env)).any (·.1) = false := by rfl) : PI X (.Tuple elts kk tpos) (.Call (.Name "zip" p) [e, e2] [] pos) (iZipS X.K ta) := by
  refine ⟨fun pins s σ H R I h => ?_⟩
  refine Call_ (ld_blt I hg hm PyProof.Rows.boot_zip (PyProof.Rows.callWith_type1 (thn (ha.run pos pins s σ H _ I h) fun us s1 ⟨vs, H1, I1, r1, q1⟩ => ?_) hs hpl))
  obtain ⟨x, b, ys, ev, hx, hqy, q⟩ := q1
  subst ev
  cases r1 with
  | cons r rr =>
    cases rr with
    | cons r' rr =>
      cases rr
      obtain ⟨t, rfl⟩ := r
      cases r'
      obtain ⟨its, rv, p1, _⟩ := I1.list hqy
      refine call_new hx p1.isList fun h' st kp => wpAny_pyIter_zip st.zp ?_
      refine ⟨s1.heap.objs.size + 4, chainZ s1.heap.objs.size, _, _, H1, rfl, I1.kept (t' := s1.toks) kp, turnZ (t := t) (x := x) (b := b) (n := s1.heap.objs.size) p1.lt, st, fun c hc => ?_, q⟩
      have le : s1.heap.objs.size ≤ c := by
        simp only [chainZ, List.mem_cons, List.not_mem_nil, or_false] at hc
        rcases hc with rfl | rfl | rfl | rfl | rfl
        · exact Nat.le_add_right _ _
        · exact Nat.le_add_right _ _
        · exact Nat.le_add_right _ _
        · exact Nat.le_refl _
        · exact Nat.le_add_right _ _
      exact I1.fpOk le (I1.hok.fresh le)
end ZG
namespace DL
open PySem PySem.Spec PyProof.Rows L2
variable {K : PySem.W.Frag} {G1 : Hp}
def zsD : List Nat → List D → List D
  | c :: cs, d :: ds => .tup [.str ⟨#[c]⟩, d] :: zsD cs ds
  | _, _ => []
theorem zsD_get : ∀ (cs : List Nat) (ds : List D) (i : Nat) (d : D), (zsD cs ds)[i]? = some d → ∃ c x, cs[i]? = some c ∧ ds[i]? = some x ∧ d = .tup [.str ⟨#[c]⟩, x]
  | [], _, i, d, h => by simp [zsD] at h
  | c :: cs, [], i, d, h => by simp [zsD] at h
  | c :: cs, x :: ds, 0, d, h => ⟨c, x, rfl, rfl, (Option.some.inj h).symm⟩
  | c :: cs, x :: ds, i + 1, d, h => by
    obtain ⟨c', x', h1, h2, h3⟩ := zsD_get cs ds i d (by simpa [zsD] using h)
    exact ⟨c', x', by simpa using h1, by simpa using h2, h3⟩
theorem zsD_len : ∀ (cs : List Nat) (ds : List D), (zsD cs ds).length = min cs.length ds.length
  | [], ds => by simp [zsD]
  | c :: cs, [] => by simp [zsD]
  | c :: cs, d :: ds => by simp [zsD, zsD_len cs ds] <;> omega
theorem itOk_zs {x : Str} {b : Addr} {ds : List D} {ys : List V} (h : SqL K G1 b ys) (hr : RpDs K G1 ds ys) : ItOk K G1 (ZG.ItZ K x b) (zsD x.cps.toList ds) where
  go := fun i H s hi => by
    rw [zsD_len] at hi
    have l1 : i < x.cps.size := by
      have : x.cps.toList.length = x.cps.size := Array.length_toList
      omega
    have l2 : i < ys.length := by rw [hr.len]; omega
    exact ⟨l1, ys, ys[i], s.seq h, List.getElem?_eq_getElem _⟩
  stop := fun H s => by
    refine ⟨⟨ys, s.seq h⟩, ?_⟩
    rw [zsD_len]
    have : x.cps.toList.length = x.cps.size := Array.length_toList
    by_cases c : x.cps.size ≤ ds.length
    · left; omega
    · right; exact ⟨ys, s.seq h, by rw [hr.len]; omega⟩
  yld := fun i H v H' d s hd y => by
    obtain ⟨tt, c, y, rfl, hn, e, hc, hy⟩ := y
    obtain ⟨c', x', h1, h2, h3⟩ := zsD_get _ _ _ _ hd
    subst h3
    obtain ⟨w, h4, h5⟩ := hr.get h2
    have hw := hy ys (s.seq h)
    rw [h4] at hw
    cases hw
    have ec : c' = c := by
      have : x.cps.toList[i]? = some c := by rw [Array.getElem?_toList]; try exact hc
      rw [h1] at this
      exact Option.some.inj this
    subst ec
    exact .inr ⟨tt, _, [.str ⟨#[c']⟩, x'], hn, e, rfl, rfl, _, _, rfl, rfl, _, [], rfl, h5, rfl⟩
def iZpS (f : AF) : IF := fun env => (f env).bind fun r => match r.1 with
  | [.p (.str s), .p (.lst ds)] => if s.cps.toList.all (fun c => decide (c < 128)) = true then some (zsD s.cps.toList ds, r.2) else none
  | _ => none
theorem di_zipS {X : Cx} {e e2 : Expr} {ta : TA} {fa : AF} {p pos tpos : Pos} {elts : List Expr} {kk : Nat} (hg : Gl X "zip") (hm : X.mg "zip" = none) (h : DA X [e, e2] ta fa) (hs : starEach [e, e2] X.env = (false, eval e X.env) :: starEach [e2] X.env := by rfl) (hpl : (backTo pos (starEach [e2] X.env)).any (·.1) = false := by rfl) :
    DI X (.Tuple elts kk tpos) (.Call (.Name "zip" p) [e, e2] [] pos) (ZG.iZipS X.K ta) (iZpS fa) := by
  refine ⟨ZG.pi_zipS hg hm h.pa hs hpl, ?_⟩
  intro G0 H0 W H ts vs env σ ds env' S g R r
  obtain ⟨⟨us, e1⟩, g1, g2⟩ := obind g
  refine h.ok _ _ _ _ _ _ _ _ _ _ S g1 _ fun ws H1 s1 hl S1 => ?_
  dsimp only at g2
  split at g2
  · rename_i x d2
    split at g2
    · rename_i hx
      cases g2
      match ws, hl with
      | [w1, w2], _ =>
        have ex : w1 = .str x := S1.top
        subst ex
        obtain ⟨G1, gst, sG, ⟨b, ys, r1, r2, r3⟩, S2⟩ := OkS.fixTop (show OkS X.K G0 H0 W H1 (.p (.lst d2) :: ts) (w2 :: vs) _ σ from S1.pop)
        refine ⟨x, b, ys, by rw [r1], ?_, sG.seq (.inl r2), r _ _ G1 s1 gst (itOk_zs (.inl r2) r3) S2⟩
        rw [← Array.all_toList]; exact hx
    · cases g2
  · cases g2
def kZpS (r : List T × Env) : Option (List D × Env) := match r.1 with
  | [.p (.str s), .p (.lst ds)] => if s.cps.toList.all (fun c => decide (c < 128)) = true then some (zsD s.cps.toList ds, r.2) else none
  | _ => none
theorem iZpS_q {f : AF} {env : Env} : iZpS f env = (f env).bind kZpS := id rfl
theorem kZpS_q {l : List Nat} {ds : List D} {e : Env} : kZpS ([.p (.str (sg l)), .p (.lst ds)], e) = if l.all (fun c => decide (c < 128)) = true then some (zsD l ds, e) else none := id rfl
end DL

set_option Elab.async false
set_option linter.all false
set_option maxRecDepth 100000
set_option maxHeartbeats 1000000
/-! Places inside trees: nested lists, dicts, objects; what is written there. -/
namespace DL
open PySem PySem.Spec PyProof.Rows L2
inductive Stp where
  | key (k : Key) | tky (k : List Key) | ix (n : Nat) | it (n : Nat) | fld (f : Str)
def unb : T → T
  | .box _ t => t
  | t => t
def reb : T → T → T
  | .box a _, u => .box a u
  | _, u => u
/-- the first one of a key -/
def valT {κ : Type} [DecidableEq κ] : List (κ × T) → κ → Option T
  | [], _ => none
  | (j, t) :: r, k => if j = k then some t else valT r k
def setT {κ : Type} [DecidableEq κ] : List (κ × T) → κ → T → List (κ × T)
  | [], _, _ => []
  | (j, t) :: r, k, u => if j = k then (j, u) :: r else (j, t) :: setT r k u
def stepT : Stp → T → Option T
  | .key k, .dic kvs => valT kvs k
  | .tky k, .dit kvs => valT kvs k
  | .ix n, .lst ts => ts[n]?
  | .it n, .tup ts => ts[n]?
  | .fld f, .obj _ fs => valT fs f
  | _, _ => none
def setS : Stp → T → T → T
  | .key k, .dic kvs, u => .dic (setT kvs k u)
  | .tky k, .dit kvs, u => .dit (setT kvs k u)
  | .ix n, .lst ts, u => .lst (ts.set n u)
  | .it n, .tup ts, u => .tup (ts.set n u)
  | .fld f, .obj n fs, u => .obj n (setT fs f u)
  | _, t, _ => t
def getP : List Stp → T → Option T
  | [], t => some t
  | s :: P, t => (stepT s (unb t)).bind (getP P)
def setP : List Stp → T → T → T
  | [], _, u => u
  | s :: P, t, u => match stepT s (unb t) with
    | some c => reb t (setS s (unb t) (setP P c u))
    | none => t
def ChS (H : Hp) : Stp → V → V → Prop
  | .key k, v, w => ∃ a ws, v = .ref a ∧ H a = some (.dK ws) ∧ valV ws k = some w
  | .tky k, v, w => ∃ a ws, v = .ref a ∧ H a = some (.dT ws) ∧ valV ws k = some w
  | .ix n, v, w => ∃ a xs, v = .ref a ∧ H a = some (.lst xs) ∧ xs[n]? = some w
  | .it n, v, w => ∃ a xs, v = .ref a ∧ Rd H a (.tup xs) ∧ xs[n]? = some w
  | .fld f, v, w => ∃ a C dx fs, v = .ref a ∧ H a = some (.ins C dx fs) ∧ fs.lookup f = some w
/-- the way from one thing to another in the heap -/
def Ch (H : Hp) : List Stp → V → V → Prop
  | [], v, w => w = v
  | s :: P, v, w => ∃ u, ChS H s v u ∧ Ch H P u w
theorem ChS.det {H : Hp} {s : Stp} {v w w' : V} (h : ChS H s v w) (h' : ChS H s v w') : w = w' := by
  cases s with
  | key k =>
    obtain ⟨a, ws, rfl, h2, h3⟩ := h
    obtain ⟨a', ws', e, h2', h3'⟩ := h'
    cases e
    rw [h2] at h2'; cases h2'
    rw [h3] at h3'; exact Option.some.inj h3'
  | tky k =>
    obtain ⟨a, ws, rfl, h2, h3⟩ := h
    obtain ⟨a', ws', e, h2', h3'⟩ := h'
    cases e
    rw [h2] at h2'; cases h2'
    rw [h3] at h3'; exact Option.some.inj h3'
  | ix n =>
    obtain ⟨a, ws, rfl, h2, h3⟩ := h
    obtain ⟨a', ws', e, h2', h3'⟩ := h'
    cases e
    rw [h2] at h2'; cases h2'
    rw [h3] at h3'; exact Option.some.inj h3'
  | it n =>
    obtain ⟨a, ws, rfl, h2, h3⟩ := h
    obtain ⟨a', ws', e, h2', h3'⟩ := h'
    cases e
    have q3 : ws = ws' := by
      rcases h2 with q1 | ⟨oo, q1⟩ <;> rcases h2' with q2 | ⟨oo', q2⟩ <;> (rw [q1] at q2; first | (cases q2; done) | (cases q2; rfl))
    subst q3
    rw [h3] at h3'; exact Option.some.inj h3'
  | fld f =>
    obtain ⟨a, C, dx, ws, rfl, h2, h3⟩ := h
    obtain ⟨a', C', dx', ws', e, h2', h3'⟩ := h'
    cases e
    rw [h2] at h2'; cases h2'
    rw [h3] at h3'; exact Option.some.inj h3'
theorem Ch.det {H : Hp} : ∀ {P : List Stp} {v w w' : V}, Ch H P v w → Ch H P v w' → w = w'
  | [], _, _, _, h, h' => h.trans h'.symm
  | s :: P, _, _, _, ⟨u, h1, h2⟩, ⟨u', h1', h2'⟩ => by
    have := h1.det h1'
    subst this
    exact Ch.det h2 h2'
theorem ChS.same {H H' : Hp} (e : Same H H') {s : Stp} {v w : V} (h : ChS H s v w) : ChS H' s v w := by
  cases s with
  | key k => obtain ⟨a, ws, h1, h2, h3⟩ := h; exact ⟨a, ws, h1, e _ _ h2, h3⟩
  | tky k => obtain ⟨a, ws, h1, h2, h3⟩ := h; exact ⟨a, ws, h1, e _ _ h2, h3⟩
  | ix k => obtain ⟨a, ws, h1, h2, h3⟩ := h; exact ⟨a, ws, h1, e _ _ h2, h3⟩
  | it k => obtain ⟨a, ws, h1, h2, h3⟩ := h; exact ⟨a, ws, h1, Same.rd e h2, h3⟩
  | fld k => obtain ⟨a, C, dx, ws, h1, h2, h3⟩ := h; exact ⟨a, C, dx, ws, h1, e _ _ h2, h3⟩
theorem Ch.same {H H' : Hp} (e : Same H H') : ∀ {P : List Stp} {v w : V}, Ch H P v w → Ch H' P v w
  | [], _, _, h => h
  | s :: P, _, _, ⟨u, h1, h2⟩ => ⟨u, h1.same e, Ch.same e h2⟩
theorem Ch.app {H : Hp} : ∀ {P : List Stp} {v w x : V} {s : Stp}, Ch H P v w → ChS H s w x → Ch H (P ++ [s]) v x
  | [], _, _, _, _, h, h' => by rw [show _ = _ from h] at h'; exact ⟨_, h', rfl⟩
  | s :: P, _, _, _, _, ⟨u, h1, h2⟩, h' => ⟨u, h1, Ch.app h2 h'⟩
theorem getP_app : ∀ (P : List Stp) (s : Stp) (t : T), getP (P ++ [s]) t = (getP P t).bind fun u => stepT s (unb u)
  | [], s, t => by
    show (stepT s (unb t)).bind (getP []) = stepT s (unb t)
    cases stepT s (unb t) <;> rfl
  | p :: P, s, t => by
    show (stepT p (unb t)).bind (getP (P ++ [s])) = ((stepT p (unb t)).bind (getP P)).bind _
    cases stepT p (unb t) with
    | none => rfl
    | some c => exact getP_app P s c
section
variable {K : PySem.W.Frag} {G H : Hp}
theorem perm3 {α : Type} (a b c : List α) : (a ++ (b ++ c)).Perm (b ++ (a ++ c)) := perm_mid a b c
theorem RpTs.foc : ∀ {ts : List T} {vs : List V} {o : List Addr} {n : Nat} {u : T}, RpTs K G H ts vs o → ts[n]? = some u → ∃ w o1 o2, vs[n]? = some w ∧ Rp K G H u w o1 ∧ o.Perm (o1 ++ o2) ∧
    ∀ {G' H' : Hp} {u' : T} {o1' : List Addr}, Same G G' → (∀ a ∈ o2, H' a = H a) → Rp K G' H' u' w o1' → ∃ o', RpTs K G' H' (ts.set n u') vs o' ∧ o'.Perm (o1' ++ o2)
  | [], _, _, _, _, _, e => by simp at e
  | t :: ts, _, _, 0, u, ⟨v, r, o1, o2, h1, h2, h3, h4⟩, e => by
    simp at e; subst e; subst h1
    exact ⟨v, o1, o2, rfl, h2, by rw [h4], fun {G' H' u' o1'} sg k h => ⟨o1' ++ o2, ⟨v, r, o1', o2, rfl, h, h3.mono sg _ k, rfl⟩, .refl _⟩⟩
  | t :: ts, _, _, n + 1, u, ⟨v, r, o1, o2, h1, h2, h3, h4⟩, e => by
    subst h1
    obtain ⟨w, p1, p2, g1, g2, g3, g4⟩ := RpTs.foc (n := n) h3 (by simpa using e)
    refine ⟨w, p1, o1 ++ p2, by simpa using g1, g2, ?_, fun {G' H' u' o1'} sg k h => ?_⟩
    · rw [h4]; exact (List.Perm.append_left o1 g3).trans (perm_mid _ _ _)
    · obtain ⟨o', f1, f2⟩ := g4 sg (fun a ha => k a (by simp [ha])) h
      exact ⟨o1 ++ o', ⟨v, r, o1, o', rfl, h2.mono sg _ (fun a ha => k a (by simp [ha])), f1, rfl⟩, (List.Perm.append_left o1 f2).trans (perm_mid _ _ _)⟩
theorem RpTk.foc : ∀ {ts : List (Key × T)} {vs : List (Key × V)} {o : List Addr} {n : Key} {u : T}, RpTk K G H ts vs o → valT ts n = some u → ∃ w o1 o2, valV vs n = some w ∧ Rp K G H u w o1 ∧ o.Perm (o1 ++ o2) ∧
    ∀ {G' H' : Hp} {u' : T} {o1' : List Addr}, Same G G' → (∀ a ∈ o2, H' a = H a) → Rp K G' H' u' w o1' → ∃ o', RpTk K G' H' (setT ts n u') vs o' ∧ o'.Perm (o1' ++ o2)
  | [], _, _, _, _, _, e => by simp [valT] at e
  | (j, t) :: ts, _, _, n, u, ⟨v, r, o1, o2, h1, h2, h3, h4⟩, e => by
    subst h1
    by_cases c : j = n
    · rw [valT, if_pos c] at e; cases e
      refine ⟨v, o1, o2, valV_pos (by exact c), h2, by rw [h4], fun {G' H' u' o1'} sg k h => ⟨o1' ++ o2, ?_, .refl _⟩⟩
      rw [setT, if_pos c]
      exact ⟨v, r, o1', o2, rfl, h, h3.mono sg _ k, rfl⟩
    · rw [valT, if_neg c] at e
      obtain ⟨w, p1, p2, g1, g2, g3, g4⟩ := RpTk.foc h3 e
      refine ⟨w, p1, o1 ++ p2, (valV_neg (by exact c)).trans g1, g2, ?_, fun {G' H' u' o1'} sg k h => ?_⟩
      · rw [h4]; exact (List.Perm.append_left o1 g3).trans (perm_mid _ _ _)
      · obtain ⟨o', f1, f2⟩ := g4 sg (fun a ha => k a (by simp [ha])) h
        rw [setT, if_neg c]
        exact ⟨o1 ++ o', ⟨v, r, o1, o', rfl, h2.mono sg _ (fun a ha => k a (by simp [ha])), f1, rfl⟩, (List.Perm.append_left o1 f2).trans (perm_mid _ _ _)⟩
theorem RpTt.foc : ∀ {ts : List (List Key × T)} {vs : List (List Key × V)} {o : List Addr} {n : List Key} {u : T}, RpTt K G H ts vs o → valT ts n = some u → ∃ w o1 o2, valV vs n = some w ∧ Rp K G H u w o1 ∧ o.Perm (o1 ++ o2) ∧
    ∀ {G' H' : Hp} {u' : T} {o1' : List Addr}, Same G G' → (∀ a ∈ o2, H' a = H a) → Rp K G' H' u' w o1' → ∃ o', RpTt K G' H' (setT ts n u') vs o' ∧ o'.Perm (o1' ++ o2)
  | [], _, _, _, _, _, e => by simp [valT] at e
  | (j, t) :: ts, _, _, n, u, ⟨v, r, o1, o2, h1, h2, h3, h4⟩, e => by
    subst h1
    by_cases c : j = n
    · rw [valT, if_pos c] at e; cases e
      refine ⟨v, o1, o2, valV_pos (by exact c), h2, by rw [h4], fun {G' H' u' o1'} sg k h => ⟨o1' ++ o2, ?_, .refl _⟩⟩
      rw [setT, if_pos c]
      exact ⟨v, r, o1', o2, rfl, h, h3.mono sg _ k, rfl⟩
    · rw [valT, if_neg c] at e
      obtain ⟨w, p1, p2, g1, g2, g3, g4⟩ := RpTt.foc h3 e
      refine ⟨w, p1, o1 ++ p2, (valV_neg (by exact c)).trans g1, g2, ?_, fun {G' H' u' o1'} sg k h => ?_⟩
      · rw [h4]; exact (List.Perm.append_left o1 g3).trans (perm_mid _ _ _)
      · obtain ⟨o', f1, f2⟩ := g4 sg (fun a ha => k a (by simp [ha])) h
        rw [setT, if_neg c]
        exact ⟨o1 ++ o', ⟨v, r, o1, o', rfl, h2.mono sg _ (fun a ha => k a (by simp [ha])), f1, rfl⟩, (List.Perm.append_left o1 f2).trans (perm_mid _ _ _)⟩
theorem lookup_cons (j n : Str) (v : V) (r : List (Str × V)) : List.lookup n ((j, v) :: r) = if j = n then some v else List.lookup n r := by
  rw [List.lookup_cons]
  by_cases c : j = n
  · subst c; simp
  · rw [if_neg c]
    have : (n == j) = false := by simpa using fun e => c e.symm
    rw [this]
theorem RpTf.foc : ∀ {ts : List (Str × T)} {vs : List (Str × V)} {o : List Addr} {n : Str} {u : T}, RpTf K G H ts vs o → valT ts n = some u → ∃ w o1 o2, vs.lookup n = some w ∧ Rp K G H u w o1 ∧ o.Perm (o1 ++ o2) ∧
    ∀ {G' H' : Hp} {u' : T} {o1' : List Addr}, Same G G' → (∀ a ∈ o2, H' a = H a) → Rp K G' H' u' w o1' → ∃ o', RpTf K G' H' (setT ts n u') vs o' ∧ o'.Perm (o1' ++ o2)
  | [], _, _, _, _, _, e => by simp [valT] at e
  | (j, t) :: ts, _, _, n, u, ⟨v, r, o1, o2, h1, h2, h3, h4⟩, e => by
    subst h1
    by_cases c : j = n
    · rw [valT, if_pos c] at e; cases e
      refine ⟨v, o1, o2, by rw [lookup_cons, if_pos c], h2, by rw [h4], fun {G' H' u' o1'} sg k h => ⟨o1' ++ o2, ?_, .refl _⟩⟩
      rw [setT, if_pos c]
      exact ⟨v, r, o1', o2, rfl, h, h3.mono sg _ k, rfl⟩
    · rw [valT, if_neg c] at e
      obtain ⟨w, p1, p2, g1, g2, g3, g4⟩ := RpTf.foc h3 e
      refine ⟨w, p1, o1 ++ p2, by rw [lookup_cons, if_neg c]; exact g1, g2, ?_, fun {G' H' u' o1'} sg k h => ?_⟩
      · rw [h4]; exact (List.Perm.append_left o1 g3).trans (perm_mid _ _ _)
      · obtain ⟨o', f1, f2⟩ := g4 sg (fun a ha => k a (by simp [ha])) h
        rw [setT, if_neg c]
        exact ⟨o1 ++ o', ⟨v, r, o1, o', rfl, h2.mono sg _ (fun a ha => k a (by simp [ha])), f1, rfl⟩, (List.Perm.append_left o1 f2).trans (perm_mid _ _ _)⟩
theorem Rp.unb {t : T} {v : V} {o : List Addr} (h : Rp K G H t v o) : Rp K G H (DL.unb t) v o := by
  cases t with
  | box a t => exact h.2
  | _ => exact h
theorem Rp.reb {G' H' : Hp} {t u : T} {v : V} {o o' : List Addr} (h : Rp K G H t v o) (h' : Rp K G' H' u v o') : Rp K G' H' (DL.reb t u) v o' := by
  cases t with
  | box a t => exact ⟨h.1, h'⟩
  | _ => exact h'
/-- one step down -/
theorem Rp.focS {s : Stp} {t u : T} {v : V} {o : List Addr} (sGH : Same G H) (e : stepT s t = some u) (h : Rp K G H t v o) : ∃ w o1 o2, ChS H s v w ∧ Rp K G H u w o1 ∧ o.Perm (o1 ++ o2) ∧
    ∀ {G' H' : Hp} {u' : T} {o1' : List Addr}, Same G G' → (∀ a ∈ o2, H' a = H a) → Rp K G' H' u' w o1' → ∃ o', Rp K G' H' (setS s t u') v o' ∧ o'.Perm (o1' ++ o2) := by
  unfold stepT at e
  split at e
  · obtain ⟨a, ws, o', h1, h2, h3, h4⟩ := h
    obtain ⟨w, o1, o2, g1, g2, g3, g4⟩ := h3.foc e
    refine ⟨w, o1, a :: o2, ⟨a, ws, h1, h2, g1⟩, g2, ?_, fun {G' H' u' o1'} sg k hh => ?_⟩
    · rw [h4]; exact (List.Perm.cons a g3).trans List.perm_middle.symm
    · obtain ⟨o'', f1, f2⟩ := g4 sg (fun b hb => k b (by simp [hb])) hh
      exact ⟨a :: o'', ⟨a, ws, o'', h1, by rw [k a (by simp)]; exact h2, f1, rfl⟩, (List.Perm.cons a f2).trans List.perm_middle.symm⟩
  · obtain ⟨a, ws, o', h1, h2, h3, h4⟩ := h
    obtain ⟨w, o1, o2, g1, g2, g3, g4⟩ := h3.foc e
    refine ⟨w, o1, a :: o2, ⟨a, ws, h1, h2, g1⟩, g2, ?_, fun {G' H' u' o1'} sg k hh => ?_⟩
    · rw [h4]; exact (List.Perm.cons a g3).trans List.perm_middle.symm
    · obtain ⟨o'', f1, f2⟩ := g4 sg (fun b hb => k b (by simp [hb])) hh
      exact ⟨a :: o'', ⟨a, ws, o'', h1, by rw [k a (by simp)]; exact h2, f1, rfl⟩, (List.Perm.cons a f2).trans List.perm_middle.symm⟩
  · obtain ⟨a, ws, o', h1, h2, h3, h4⟩ := h
    obtain ⟨w, o1, o2, g1, g2, g3, g4⟩ := h3.foc e
    refine ⟨w, o1, a :: o2, ⟨a, ws, h1, h2, g1⟩, g2, ?_, fun {G' H' u' o1'} sg k hh => ?_⟩
    · rw [h4]; exact (List.Perm.cons a g3).trans List.perm_middle.symm
    · obtain ⟨o'', f1, f2⟩ := g4 sg (fun b hb => k b (by simp [hb])) hh
      exact ⟨a :: o'', ⟨a, ws, o'', h1, by rw [k a (by simp)]; exact h2, f1, rfl⟩, (List.Perm.cons a f2).trans List.perm_middle.symm⟩
  · obtain ⟨a, ws, h1, h2, h3⟩ := h
    obtain ⟨w, o1, o2, g1, g2, g3, g4⟩ := h3.foc e
    refine ⟨w, o1, o2, ⟨a, ws, h1, ?_, g1⟩, g2, g3, fun {G' H' u' o1'} sg k hh => ?_⟩
    · exact Same.rd sGH h2
    · obtain ⟨o'', f1, f2⟩ := g4 sg k hh
      exact ⟨o'', ⟨a, ws, h1, Same.rd sg h2, f1⟩, f2⟩
  · obtain ⟨a, C, dx, ws, o', h1, h0, h2, h3, h4⟩ := h
    obtain ⟨w, o1, o2, g1, g2, g3, g4⟩ := h3.foc e
    refine ⟨w, o1, a :: o2, ⟨a, C, dx, ws, h1, h2, g1⟩, g2, ?_, fun {G' H' u' o1'} sg k hh => ?_⟩
    · rw [h4]; exact (List.Perm.cons a g3).trans List.perm_middle.symm
    · obtain ⟨o'', f1, f2⟩ := g4 sg (fun b hb => k b (by simp [hb])) hh
      exact ⟨a :: o'', ⟨a, C, dx, ws, o'', h1, h0, by rw [k a (by simp)]; exact h2, f1, rfl⟩, (List.Perm.cons a f2).trans List.perm_middle.symm⟩
  · cases e
theorem Rp.foc (sGH : Same G H) : ∀ {P : List Stp} {t u : T} {v : V} {o : List Addr}, getP P t = some u → Rp K G H t v o → ∃ w o1 o2, Ch H P v w ∧ Rp K G H u w o1 ∧ o.Perm (o1 ++ o2) ∧
    ∀ {G' H' : Hp} {u' : T} {o1' : List Addr}, Same G G' → (∀ a ∈ o2, H' a = H a) → Rp K G' H' u' w o1' → ∃ o', Rp K G' H' (setP P t u') v o' ∧ o'.Perm (o1' ++ o2)
  | [], t, u, v, o, e, h => by
    cases e
    exact ⟨v, o, [], rfl, h, by simp, fun {G' H' u' o1'} sg k hh => ⟨o1', hh, by simp⟩⟩
  | s :: P, t, u, v, o, e, h => by
    obtain ⟨c, e1, e2⟩ := obind (show (stepT s (DL.unb t)).bind (getP P) = some u from e)
    obtain ⟨x, o1, o2, g1, g2, g3, g4⟩ := h.unb.focS sGH e1
    obtain ⟨w, p1, p2, f1, f2, f3, f4⟩ := Rp.foc sGH e2 g2
    refine ⟨w, p1, p2 ++ o2, ⟨x, g1, f1⟩, f2, ?_, fun {G' H' u' o1'} sg k hh => ?_⟩
    · rw [← List.append_assoc]; exact g3.trans (List.Perm.append_right _ f3)
    · obtain ⟨o', q1, q2⟩ := f4 sg (fun b hb => k b (by simp [hb])) hh
      obtain ⟨o'', q3, q4⟩ := g4 sg (fun b hb => k b (by simp [hb])) q1
      refine ⟨o'', ?_, ?_⟩
      · show Rp K G' H' (match stepT s (DL.unb t) with | some c => DL.reb t (setS s (DL.unb t) (setP P c u')) | none => t) v o''
        rw [e1]
        exact h.reb q3
      · rw [← List.append_assoc]; exact q4.trans (List.Perm.append_right _ q2)
/-- a place written -/
theorem OkS.wr {G0 H0 : Hp} {W : List (T × V)} {ts es : List T} {vs ws : List V} {env : Env} {σ : St} {i : Nat} {P : List Stp} {t u : T} {v w : V} (S : OkS K G0 H0 W H (es ++ ts) (ws ++ vs) env σ) (hw : ws.length = es.length) (he : env[i]? = some (some t)) (hp : getP P t = some u)
    (hv : σ[i]? = some (some v)) (hc : Ch H P v w) : ∃ (G : Hp) (o1 o2 : List Addr), Rp K G H u w o1 ∧ RpTs K G H es ws o2 ∧ (o1 ++ o2).Nodup ∧ Same G H ∧ (∀ b ∈ o1 ++ o2, G b = none ∧ H0 b = none) ∧
    ∀ (a : Addr) (cell : HO) (u' : T) (es' : List T) (ws' : List V) (o3 o4 rest : List Addr), a ∈ o1 → Rp K G (upd H a cell) u' w o3 → RpTs K G (upd H a cell) es' ws' o4 → (o1 ++ o2).Perm (o3 ++ o4 ++ rest) → OkS K G0 H0 [] (upd H a cell) (es' ++ ts) (ws' ++ vs) (env.set i (some (setP P t u'))) σ := by
  obtain ⟨G, ot, oe, s⟩ := S
  obtain ⟨o2, o5, k1, k2, k3⟩ := s.tmp.split hw
  obtain ⟨v', oA, oB, e1, e2, e3, e4⟩ := s.env.take he
  rw [hv] at e1
  cases e1
  obtain ⟨w', o1, o6, f1, f2, f3, f4⟩ := e2.foc s.gh hp
  have := f1.det hc
  subst this
  have pm : (ot ++ oe).Perm ((o1 ++ o2) ++ (o6 ++ (o5 ++ oB))) := by
    rw [k3]
    have q1 : ((o2 ++ o5) ++ oe).Perm ((o2 ++ o5) ++ ((o1 ++ o6) ++ oB)) := List.Perm.append_left _ (e4.trans (List.Perm.append_right _ f3))
    refine q1.trans ?_
    have q2 : ((o2 ++ o5) ++ ((o1 ++ o6) ++ oB)).Perm (o1 ++ ((o2 ++ o5) ++ (o6 ++ oB))) := by
      rw [List.append_assoc o1]
      exact perm_mid _ _ _
    refine q2.trans ?_
    rw [List.append_assoc o1, List.append_assoc o2]
    exact List.Perm.append_left _ (List.Perm.append_left _ (perm_mid _ _ _))
  have nd := pm.nodup_iff.mp s.nd
  have fr : ∀ b ∈ (o1 ++ o2) ++ (o6 ++ (o5 ++ oB)), G b = none ∧ H0 b = none := fun b hb => s.fr b (pm.mem_iff.mpr hb)
  refine ⟨G, o1, o2, f2, k1, (List.nodup_append.mp nd).1, s.gh, fun b hb => fr b (List.mem_append_left _ hb), fun a cell u' es' ws' o3 o4 rest ha r1 r2 pm2 => ?_⟩
  have ha' : a ∈ o1 ++ o2 := List.mem_append_left _ ha
  have nea : ∀ b ∈ o6 ++ (o5 ++ oB), b ≠ a := fun b hb e => (List.nodup_append.mp nd).2.2 a ha' b hb e.symm
  have kp : ∀ b ∈ o6 ++ (o5 ++ oB), upd H a cell b = H b := fun b hb => upd_ne (nea b hb)
  obtain ⟨o7, q1, q2⟩ := f4 (Same.refl G) (fun b hb => kp b (by simp [hb])) r1
  have e3' := e3.mono (Same.refl G) _ (fun b hb => kp b (by simp [hb]))
  have hl : i < env.length := (List.getElem?_eq_some_iff.mp he).1
  obtain ⟨o8, g1, g2⟩ := e3'.put (i := i) (by simpa using hl) (fun x z => by rw [List.getElem?_set_self hl] at z; cases z) q1
  rw [List.set_set, set_back hv] at g1
  have t2 := k2.mono (Same.refl G) _ (fun b hb => kp b (by simp [hb]))
  have pm3 : ((o1 ++ o2) ++ (o6 ++ (o5 ++ oB))).Perm (((o4 ++ o5) ++ o8) ++ rest) := by
    refine (List.Perm.append_right _ pm2).trans ?_
    have a1 : o8.Perm (o3 ++ (o6 ++ oB)) := g2.trans (by rw [← List.append_assoc]; exact List.Perm.append_right _ q2)
    have a2 : (((o4 ++ o5) ++ o8) ++ rest).Perm (((o4 ++ o5) ++ (o3 ++ (o6 ++ oB))) ++ rest) := List.Perm.append_right _ (List.Perm.append_left _ a1)
    refine List.Perm.trans ?_ a2.symm
    have cnt : ∀ x, List.count x (o3 ++ o4 ++ rest ++ (o6 ++ (o5 ++ oB))) = List.count x (o4 ++ o5 ++ (o3 ++ (o6 ++ oB)) ++ rest) := fun x => by
      simp only [List.count_append]; omega
    exact List.perm_iff_count.mpr cnt
  have nd2 := pm3.nodup_iff.mp nd
  have sub : ∀ b ∈ (o4 ++ o5) ++ o8, b ∈ (o1 ++ o2) ++ (o6 ++ (o5 ++ oB)) := fun b hb => pm3.mem_iff.mpr (List.mem_append_left _ hb)
  refine ⟨G, o4 ++ o5, o8, r2.append t2, g1, (List.nodup_append.mp nd2).1, fun b hb => fr b (sub b hb), s.g0, fun b x e => ?_, fun b x e => ?_, s.nw, fun q hq => by cases hq⟩
  · have : b ≠ a := fun z => by subst z; rw [(fr b (List.mem_append_left _ ha')).1] at e; cases e
    rw [upd_ne this]; exact s.gh b x e
  · have : b ≠ a := fun z => by subst z; rw [(fr b (List.mem_append_left _ ha')).2] at e; cases e
    rw [upd_ne this]; exact s.h0 b x e
/-- a place looked at -/
theorem OkS.at' {G0 H0 : Hp} {W : List (T × V)} {ts : List T} {vs : List V} {env : Env} {σ : St} {i : Nat} {P : List Stp} {t u : T} {v w : V} (S : OkS K G0 H0 W H ts vs env σ) (he : env[i]? = some (some t)) (hp : getP P t = some u)
    (hv : σ[i]? = some (some v)) (hc : Ch H P v w) : ∃ (G : Hp) (o1 : List Addr), Rp K G H u w o1 ∧ Same G H := by
  obtain ⟨G, o1, o2, h1, _, _, h2, _⟩ := OkS.wr (es := []) (ws := []) S rfl he hp hv hc
  exact ⟨G, o1, h1, h2⟩
end
/-! ### places by expressions -/
abbrev PF := Env → Option (List Stp × Env)
def EvP (K : PySem.W.Frag) (te : TE) (i : Nat) (f : PF) : Prop := ∀ (G0 H0 : Hp) (W : List (T × V)) (H : Hp) (ts : List T) (vs : List V) (env : Env) (σ : St) (P : List Stp) (env' : Env), OkS K G0 H0 W H ts vs env σ → f env = some (P, env') →
  ∀ Q : VK, (∀ v w H', Same H H' → OkS K G0 H0 W H' ts vs env' σ → σ[i]? = some (some v) → Ch H' P v w → Q w H') → te σ H Q
structure DP (X : Cx) (e : Expr) (te : TE) (i : Nat) (f : PF) : Prop where
  pe : PE X e te
  ok : EvP X.K te i f
/-- the thing at a place of a name's thing -/
def atP (env : Env) (i : Nat) (P : List Stp) : Option T := match env[i]? with
  | some (some t) => getP P t
  | _ => none
theorem atP_eq {env : Env} {i : Nat} {P : List Stp} {u : T} (h : atP env i P = some u) : ∃ t, env[i]? = some (some t) ∧ getP P t = some u := by
  unfold atP at h
  split at h
  · rename_i t e; exact ⟨t, e, h⟩
  · cases h
/-- .. written -/
def putP (env : Env) (i : Nat) (P : List Stp) (u : T) : Env := match env[i]? with
  | some (some t) => env.set i (some (setP P t u))
  | _ => env
theorem putP_eq {env : Env} {i : Nat} {P : List Stp} {t u : T} (h : env[i]? = some (some t)) : putP env i P u = env.set i (some (setP P t u)) := by
  unfold putP; rw [h]
def pNm (i : Nat) : PF := fun env => match env[i]? with
  | some (some _) => some ([], env)
  | _ => none
section
variable {X : Cx} {e o k : Expr} {te to tk : TE} {f fk : EF} {fo : PF} {i : Nat} {pos : Pos}
theorem dp_name (i : Nat) {x : Str} (hN : X.N[i]? = some x := by rfl) (hv : Vis X.env.scope x := by first | exact Or.inl rfl | exact Or.inr (Or.inl rfl) | exact Or.inr (Or.inr rfl)) (hd : (x == ("__debug__" : Str)) = false := by decide)
    (hcd : (x == ("__classdict__" : Str)) = false := by decide) : DP X (.Name x pos) (tVar i) i (pNm i) := by
  refine ⟨pe_var hN hv hd hcd, ?_⟩
  intro G0 H0 W H ts vs env σ P env' S g Q q
  unfold pNm at g
  split at g
  · rename_i t e
    cases g
    obtain ⟨v, hv1, S1⟩ := S.look e
    exact ⟨v, hv1, q v v H (Same.refl _) S hv1 rfl⟩
  · cases g
/-- o.f, o a place -/
def pFld (n f : Str) (i : Nat) (fo : PF) : PF := fun env => (fo env).bind fun r => (atP r.2 i r.1).bind fun t => match unb t with
  | .obj m fs => if m = n then (valT fs f).map fun _ => (r.1 ++ [.fld f], r.2) else none
  | _ => none
/-- what is asked of a class for an attribute -/
def Att (K : PySem.W.Frag) (n f : Str) : Prop := ∀ C, ClsN K n C → Cls K C ∧ NoAttr K C f
theorem dp_fld {n f : Str} (hA : Att X.K n f) (h : DP X o to i fo) (hb : attributeBase o f X.env (eval o X.env) = eval o X.env := by rfl) : DP X (.Attribute o f pos) (tFld X.K to f) i (pFld n f i fo) := by
  refine ⟨pe_fld h.pe hb, ?_⟩
  intro G0 H0 W H ts vs env σ P env' S g Q q
  obtain ⟨⟨P1, e1⟩, g1, g2⟩ := obind g
  obtain ⟨t, g3, g4⟩ := obind g2
  obtain ⟨t0, g5, g6⟩ := atP_eq g3
  dsimp only at g4
  split at g4
  · rename_i m fs hu
    split at g4
    · rename_i hm
      subst hm
      obtain ⟨u, g7, g8⟩ := omap g4
      cases g8
      refine h.ok _ _ _ _ _ _ _ _ _ _ S g1 _ fun v w H1 s1 S1 hv hc => ?_
      obtain ⟨G, o1, r, sG⟩ := S1.at' g5 g6 hv hc
      have r := r.unb
      rw [hu] at r
      obtain ⟨a, C, dx, ws, o', h1, h0, h2, h3, h4⟩ := r
      obtain ⟨x, p1, p2, k1, _⟩ := h3.foc g7
      obtain ⟨c1, c2⟩ := hA C h0
      exact ⟨a, C, dx, ws, x, h1, h2, c1, c2, k1, q v x H1 s1 S1 hv (hc.app ⟨a, C, dx, ws, h1, h2, k1⟩)⟩
    · cases g4
  · cases g4
/-- o[k], o a place of a dict -/
def pKey (i : Nat) (fo : PF) (fk : EF) : PF := fun env => (fo env).bind fun r => (fk r.2).bind fun s => (keyT s.1).bind fun k => (atP s.2 i r.1).bind fun t => match unb t with
  | .dic kvs => (valT kvs k).map fun _ => (r.1 ++ [.key k], s.2)
  | _ => none
theorem dp_key (hu : X.A.units + 1 < cLine) (h : DP X o to i fo) (hk : DT X k tk fk) (hs : NoSl k := by exact fun _ _ => rfl) : DP X (.Subscript o k pos) (tDGet to tk) i (pKey i fo fk) := by
  refine ⟨pe_dget hu h.pe hk.pe hs, ?_⟩
  intro G0 H0 W H ts vs env σ P env' S g Q q
  obtain ⟨⟨P1, e1⟩, g1, g2⟩ := obind g
  obtain ⟨⟨z, e2⟩, g3, g4⟩ := obind g2
  obtain ⟨kk, g5, g6⟩ := obind g4
  obtain ⟨t, g7, g8⟩ := obind g6
  obtain ⟨t0, g9, g10⟩ := atP_eq g7
  dsimp only at g8
  split at g8
  · rename_i kvs hun
    obtain ⟨u, g11, g12⟩ := omap g8
    cases g12
    cases z with
    | p kd =>
      refine h.ok _ _ _ _ _ _ _ _ _ _ S g1 _ fun v w H1 s1 S1 hv hc => ?_
      refine hk.ok _ _ _ _ _ _ _ _ _ _ S1 g3 _ fun y H2 s2 S2 => ?_
      have ey : y = L2.kV kk := keyD_rp (show keyD kd = some kk from g5) S2.top
      have hc2 := hc.same s2
      obtain ⟨G, o1, r, sG⟩ := S2.pop.at' g9 g10 hv hc2
      have r := r.unb
      rw [hun] at r
      obtain ⟨a, ws, o', h1, h2, h3, h4⟩ := r
      obtain ⟨x, p1, p2, k1, _⟩ := h3.foc g11
      exact ⟨a, x, h1, by rw [ey, ← k1]; exact DGet.k h2, q v x H2 (s1.trans s2) S2.pop hv (hc2.app ⟨a, ws, h1, h2, k1⟩)⟩
    | _ => cases g5
  · cases g8
/-- o[n], o a place of a list or a tuple -/
def pIx (i : Nat) (fo : PF) (fk : EF) : PF := fun env => (fo env).bind fun r => (fk r.2).bind fun s => match s.1 with
  | .p (.int z) => (atP s.2 i r.1).bind fun t => match unb t with
    | .lst ts => (ixN ts.length z).bind fun j => (ts[j]?).map fun _ => (r.1 ++ [.ix j], s.2)
    | .tup ts => (ixN ts.length z).bind fun j => (ts[j]?).map fun _ => (r.1 ++ [.it j], s.2)
    | _ => none
  | _ => none
theorem dp_ix (h : DP X o to i fo) (hk : DT X k tk fk) (hs : PlainIx k := by exact fun _ _ => rfl) : DP X (.Subscript o k pos) (tOp (rIx X.K) to tk) i (pIx i fo fk) := by
  refine ⟨pe_ix ix_seq h.pe hk.pe hs, ?_⟩
  intro G0 H0 W H ts vs env σ P env' S g Q q
  obtain ⟨⟨P1, e1⟩, g1, g2⟩ := obind g
  obtain ⟨⟨z, e2⟩, g3, g4⟩ := obind g2
  dsimp only at g4
  split at g4
  · rename_i zi
    obtain ⟨t, g7, g8⟩ := obind g4
    obtain ⟨t0, g9, g10⟩ := atP_eq g7
    refine h.ok _ _ _ _ _ _ _ _ _ _ S g1 _ fun v w H1 s1 S1 hv hc => ?_
    refine hk.ok _ _ _ _ _ _ _ _ _ _ S1 g3 _ fun y H2 s2 S2 => ?_
    have ey : y = .int zi := S2.top
    subst ey
    have hc2 := hc.same s2
    obtain ⟨G, o1, r, sG⟩ := S2.pop.at' g9 g10 hv hc2
    have r := r.unb
    split at g8
    · rename_i us hun
      rw [hun] at r
      obtain ⟨j, k1, k2⟩ := obind g8
      obtain ⟨u, k3, k4⟩ := omap k2
      cases k4
      obtain ⟨a, xs, o', h1, h2, h3, h4⟩ := r
      obtain ⟨x, p1, p2, f1, _⟩ := h3.foc k3
      exact .inl ⟨a, xs, zi, x, h1, rfl, .inl (.inl h2), atI_of k1 h3.len f1, q v x H2 (s1.trans s2) S2.pop hv (hc2.app ⟨a, xs, h1, h2, f1⟩)⟩
    · rename_i us hun
      rw [hun] at r
      obtain ⟨j, k1, k2⟩ := obind g8
      obtain ⟨u, k3, k4⟩ := omap k2
      cases k4
      obtain ⟨a, xs, h1, h2, h3⟩ := r
      obtain ⟨x, p1, p2, f1, _⟩ := h3.foc k3
      exact .inr (.inl ⟨a, xs, zi, x, h1, rfl, .inl (Same.rd sG h2), atI_of k1 h3.len f1, q v x H2 (s1.trans s2) S2.pop hv (hc2.app ⟨a, xs, h1, Same.rd sG h2, f1⟩)⟩)
    · cases g8
  · cases g4
end
end DL

set_option Elab.async false
set_option linter.all false
set_option maxRecDepth 100000
set_option maxHeartbeats 1000000
/-! Views through attributes and dicts; statements at places; expressions that change what stands; calls that change what they are lent. -/
namespace DL
open PySem PySem.Spec PyProof.Rows L2
section
variable {K : PySem.W.Frag} {G0 H0 H : Hp} {W : List (T × V)} {ts : List T} {vs : List V} {env : Env} {σ : St}
/-- a view at a place -/
theorem OkS.viewAt {i : Nat} {P : List Stp} {u : T} {v w : V} (S : OkS K G0 H0 W H ts vs env σ) (hp : atP env i P = some u) (hv : σ[i]? = some (some v)) (hc : Ch H P v w) : OkS K G0 H0 ((u, w) :: W) H ts vs env σ := by
  obtain ⟨t, he, hp⟩ := atP_eq hp
  obtain ⟨G, ot, oe, s⟩ := S
  obtain ⟨v', oA, oB, e1, e2, e3, e4⟩ := s.env.take he
  rw [hv] at e1
  cases e1
  obtain ⟨w', o1, o6, f1, f2, f3, f4⟩ := e2.foc s.gh hp
  have := f1.det hc
  subst this
  exact ⟨G, ot, oe, s.tmp, s.env, s.nd, s.fr, s.g0, s.gh, s.h0, s.nw, fun q hq => by
    rcases List.mem_cons.mp hq with e | hq
    · subst e; exact ⟨o1, f2⟩
    · exact s.vw q hq⟩
/-- a view of a part of a view -/
theorem OkS.viewIn {t u : T} {v w : V} (S : OkS K G0 H0 W H ts vs env σ) (hq : (t, v) ∈ W) (h : ∀ (G : Hp) (o : List Addr), Same G H → Rp K G H t v o → ∃ o', Rp K G H u w o') : OkS K G0 H0 ((u, w) :: W) H ts vs env σ := by
  obtain ⟨G, ot, oe, s⟩ := S
  obtain ⟨o, r⟩ := s.vw _ hq
  obtain ⟨o', r'⟩ := h G o s.gh r
  exact ⟨G, ot, oe, s.tmp, s.env, s.nd, s.fr, s.g0, s.gh, s.h0, s.nw, fun q hq => by
    rcases List.mem_cons.mp hq with e | hq
    · subst e; exact ⟨o', r'⟩
    · exact s.vw q hq⟩
end
/-! ### attributes looked at -/
def valF (n f : Str) : T → Option T
  | .obj m fs => if m = n then valT fs f else none
  | .p (.obj m fs) => if m = n then ((fs.find? fun kv => decide (kv.1 = f)).map fun kv => T.p kv.2) else none
  | _ => none
theorem RpKf.foc {K : PySem.W.Frag} {G : Hp} : ∀ {fs : List (Str × D)} {ws : List (Str × V)} {f : Str} {kv : Str × D}, RpKf K G fs ws → (fs.find? fun kv => decide (kv.1 = f)) = some kv → ∃ w, ws.lookup f = some w ∧ RpD K G kv.2 w
  | [], _, _, _, _, e => by simp at e
  | (j, d) :: fs, _, f, kv, ⟨v, r, h1, h2, h3⟩, e => by
    subst h1
    by_cases c : j = f
    · rw [List.find?_cons_of_pos (by simpa using c)] at e
      cases e
      exact ⟨v, by rw [lookup_cons, if_pos c], h2⟩
    · rw [List.find?_cons_of_neg (by simpa using c)] at e
      obtain ⟨w, g1, g2⟩ := RpKf.foc h3 e
      exact ⟨w, by rw [lookup_cons, if_neg c]; exact g1, g2⟩
def eFl (n f : Str) (fo : EF) : EF := fun env => (fo env).bind fun r => (valF n f (unb r.1)).map fun u => (u, r.2)
section
variable {X : Cx} {e o k : Expr} {te to tk : TE} {f fk fo : EF} {i : Nat} {pos apos cpos : Pos}
theorem dv_fl {n a : Str} (hA : Att X.K n a) (h : DV X o to fo) (hb : attributeBase o a X.env (eval o X.env) = eval o X.env := by rfl) : DV X (.Attribute o a pos) (tFld X.K to a) (eFl n a fo) := by
  refine ⟨pe_fld h.pe hb, ?_⟩
  intro G0 H0 W H ts vs env σ t env' S g Q q
  obtain ⟨⟨y, e1⟩, g1, g2⟩ := obind g
  obtain ⟨u, g3, g4⟩ := omap g2
  cases g4
  refine h.ok _ _ _ _ _ _ _ _ _ _ S g1 _ fun v H1 s1 S1 => ?_
  have main : ∃ (ad C dx : Addr) (fs : List (Str × V)) (w : V), v = .ref ad ∧ H1 ad = some (.ins C dx fs) ∧ ClsN X.K n C ∧ fs.lookup a = some w ∧ ∀ (G : Hp) (o : List Addr), Same G H1 → Rp X.K G H1 y v o → ∃ o', Rp X.K G H1 t w o' := by
    obtain ⟨G, ot, oe, s⟩ := S1
    obtain ⟨oo, r⟩ : ∃ o, Rp X.K G H1 y v o := s.vw (y, v) (by simp)
    have r := r.unb
    have gv : valF n a (unb y) = some t := g3
    clear g3
    unfold valF at gv
    split at gv
    · rename_i m fs hy
      have hy : unb y = .obj m fs := hy
      split at gv
      · rename_i hm; subst hm
        rw [hy] at r
        obtain ⟨ad, C, dx, ws, o', h1, h0, h2, h3, h4⟩ := r
        obtain ⟨w, p1, p2, k1, k2, _⟩ := h3.foc gv
        refine ⟨ad, C, dx, ws, w, h1, h2, h0, k1, fun G' o2 sg r' => ?_⟩
        have r' := r'.unb
        rw [hy] at r'
        obtain ⟨ad', C', dx', ws', o'', h1', h0', h2', h3', h4'⟩ := r'
        rw [h1] at h1'; cases h1'
        rw [h2] at h2'; cases h2'
        obtain ⟨w', p1', p2', k1', k2', _⟩ := h3'.foc gv
        rw [k1] at k1'; cases k1'
        exact ⟨_, k2'⟩
      · cases gv
    · rename_i m fs hy
      have hy : unb y = .p (.obj m fs) := hy
      split at gv
      · rename_i hm; subst hm
        obtain ⟨kv, g5, g6⟩ := omap gv
        subst g6
        rw [hy] at r
        obtain ⟨⟨ad, C, dx, ws, h1, h0, h2, h3⟩, _⟩ := r
        obtain ⟨w, k1, k2⟩ := h3.foc g5
        refine ⟨ad, C, dx, ws, w, h1, s.gh _ _ h2, h0, k1, fun G' o2 sg r' => ?_⟩
        have r' := r'.unb
        rw [hy] at r'
        obtain ⟨⟨ad', C', dx', ws', h1', h0', h2', h3'⟩, _⟩ := r'
        rw [h1] at h1'; cases h1'
        have e1 := s.gh _ _ h2
        have e2 := sg _ _ h2'
        rw [e1] at e2; cases e2
        obtain ⟨w', k1', k2'⟩ := h3'.foc g5
        rw [k1] at k1'; cases k1'
        exact ⟨[], k2', rfl⟩
      · cases gv
    · cases gv
  obtain ⟨ad, C, dx, fs, w, h1, h2, h3, h4, h5⟩ := main
  obtain ⟨c1, c2⟩ := hA C h3
  refine ⟨ad, C, dx, fs, w, h1, h2, c1, c2, h4, q w H1 s1 ?_⟩
  have S2 := S1.viewIn (t := y) (v := v) (by simp) h5
  exact S2.views fun q hq => by
    rcases List.mem_cons.mp hq with e | hq
    · rw [e]; simp
    · exact List.mem_cons_of_mem _ (List.mem_cons_of_mem _ hq)
/-! ### d[k] looked at, d a dict of things -/
def valK (k : Key) : T → Option T
  | .dic kvs => valT kvs k
  | .p (.dic kvs) => (valD kvs k).map T.p
  | _ => none
def eDk (fo fk : EF) : EF := fun env => (fo env).bind fun r => (fk r.2).bind fun s => (keyT s.1).bind fun k => (valK k (unb r.1)).map fun u => (u, s.2)
theorem dv_dk (hu : X.A.units + 1 < cLine) (h : DV X o to fo) (hk : DT X k tk fk) (hs : NoSl k := by exact fun _ _ => rfl) : DV X (.Subscript o k pos) (tDGet to tk) (eDk fo fk) := by
  refine ⟨pe_dget hu h.pe hk.pe hs, ?_⟩
  intro G0 H0 W H ts vs env σ t env' S g Q q
  obtain ⟨⟨y, e1⟩, g1, g2⟩ := obind g
  obtain ⟨⟨z, e2⟩, g3, g4⟩ := obind g2
  obtain ⟨kk, g5, g6⟩ := obind g4
  obtain ⟨u, g7, g8⟩ := omap g6
  cases g8
  cases z with
  | p kd =>
    refine h.ok _ _ _ _ _ _ _ _ _ _ S g1 _ fun v H1 s1 S1 => ?_
    refine hk.ok _ _ _ _ _ _ _ _ _ _ S1 g3 _ fun w2 H2 s2 S2 => ?_
    have ew : w2 = L2.kV kk := keyD_rp (show keyD kd = some kk from g5) S2.top
    have S3 := S2.pop
    have main : ∃ (ad : Addr) (ws : List (Key × V)) (w : V), v = .ref ad ∧ Rd H2 ad (.dK ws) ∧ valV ws kk = some w ∧ ∀ (G : Hp) (o : List Addr), Same G H2 → Rp X.K G H2 y v o → ∃ o', Rp X.K G H2 t w o' := by
      obtain ⟨G, ot, oe, s⟩ := S3
      obtain ⟨oo, r⟩ : ∃ o, Rp X.K G H2 y v o := s.vw (y, v) (by simp)
      have r := r.unb
      have gv : valK kk (unb y) = some t := g7
      clear g7
      unfold valK at gv
      split at gv
      · rename_i kvs hy
        have hy : unb y = .dic kvs := hy
        rw [hy] at r
        obtain ⟨ad, ws, o', h1, h2, h3, h4⟩ := r
        obtain ⟨w, p1, p2, k1, k2, _⟩ := h3.foc gv
        refine ⟨ad, ws, w, h1, .inl h2, k1, fun G' o2 sg r' => ?_⟩
        have r' := r'.unb
        rw [hy] at r'
        obtain ⟨ad', ws', o'', h1', h2', h3', h4'⟩ := r'
        rw [h1] at h1'; cases h1'
        rw [h2] at h2'; cases h2'
        obtain ⟨w', p1', p2', k1', k2', _⟩ := h3'.foc gv
        rw [k1] at k1'; cases k1'
        exact ⟨_, k2'⟩
      · rename_i kvs hy
        have hy : unb y = .p (.dic kvs) := hy
        obtain ⟨d, g9, g10⟩ := omap gv
        subst g10
        rw [hy] at r
        obtain ⟨⟨ad, ws, h1, h2, h3⟩, _⟩ := r
        obtain ⟨w, k1, k2⟩ := (h3.val kk).2 d g9
        refine ⟨ad, ws, w, h1, Same.rd s.gh h2, k1, fun G' o2 sg r' => ?_⟩
        have r' := r'.unb
        rw [hy] at r'
        obtain ⟨⟨ad', ws', h1', h2', h3'⟩, _⟩ := r'
        rw [h1] at h1'; cases h1'
        have q3 : ws = ws' := by
          rcases Same.rd s.gh h2 with q1 | ⟨oo, q1⟩ <;> rcases Same.rd sg h2' with q2 | ⟨oo', q2⟩ <;> (rw [q1] at q2; first | (cases q2; done) | (cases q2; rfl))
        subst q3
        obtain ⟨w', k1', k2'⟩ := (h3'.val kk).2 d g9
        rw [k1] at k1'; cases k1'
        exact ⟨[], k2', rfl⟩
      · cases gv
    obtain ⟨ad, ws, w, h1, h2, h3, h4⟩ := main
    refine ⟨ad, w, h1, by rw [ew, ← h3]; exact .inl ⟨_, _, h2, rfl, rfl⟩, q w H2 (s1.trans s2) ?_⟩
    have S4 := S3.viewIn (t := y) (v := v) (by simp) h4
    exact S4.views fun q hq => by
      rcases List.mem_cons.mp hq with e | hq
      · rw [e]; simp
      · exact List.mem_cons_of_mem _ (List.mem_cons_of_mem _ hq)
  | _ => cases g5
end
end DL

set_option Elab.async false
set_option linter.all false
set_option maxRecDepth 100000
set_option maxHeartbeats 1000000
/-! Stores at places; expressions that change what stands; calls that are lent a thing. -/
namespace DL
open PySem PySem.Spec PyProof.Rows L2
/-! ### dicts and objects of things written -/
def putT {κ : Type} [DecidableEq κ] (kvs : List (κ × T)) (k : κ) (t : T) : List (κ × T) := if (kvs.any fun kv => decide (kv.1 = k)) = true then kvs.map (fun kv => if kv.1 = k then (kv.1, t) else kv) else kvs ++ [(k, t)]
def cntT {κ : Type} [DecidableEq κ] (kvs : List (κ × T)) (k : κ) : Nat := (kvs.filter fun kv => decide (kv.1 = k)).length
def isP : T → Bool
  | .p _ => true
  | _ => false
def okPut {κ : Type} [DecidableEq κ] (kvs : List (κ × T)) (k : κ) (t : T) : Bool := isP t || decide (cntT kvs k ≤ 1)
def dropT {κ : Type} [DecidableEq κ] (kvs : List (κ × T)) (k : κ) : List (κ × T) := kvs.filter fun kv => decide (kv.1 ≠ k)
def putFT (fs : List (Str × T)) (f : Str) (t : T) : List (Str × T) := match fs with
  | [] => [(f, t)]
  | (g, x) :: r => if g = f then (g, t) :: r else (g, x) :: putFT r f t
section
variable {K : PySem.W.Frag} {G H : Hp}
theorem RpTk.any (k : Key) : ∀ {kvs : List (Key × T)} {xs : List (Key × V)} {o : List Addr}, RpTk K G H kvs xs o → (xs.any fun kv => decide (kv.1 = k)) = kvs.any fun kv => decide (kv.1 = k)
  | [], _, _, h => by rw [h.1]; rfl
  | (j, d) :: r, _, _, ⟨v, r', o1, o2, h1, h2, h3, h4⟩ => by rw [h1, List.any_cons, List.any_cons, RpTk.any k h3]
theorem RpTk.len : ∀ {kvs : List (Key × T)} {xs : List (Key × V)} {o : List Addr}, RpTk K G H kvs xs o → xs.length = kvs.length
  | [], _, _, h => by rw [h.1]; rfl
  | (j, d) :: r, _, _, ⟨v, r', o1, o2, h1, h2, h3, h4⟩ => by rw [h1, List.length_cons, List.length_cons, RpTk.len h3]
theorem RpTk.noKey {k : Key} (f : Key × T → Key × T) (g : Key × V → Key × V) (hf : ∀ kv, kv.1 ≠ k → f kv = kv) (hg : ∀ kv, kv.1 ≠ k → g kv = kv) : ∀ {kvs : List (Key × T)} {xs : List (Key × V)} {o : List Addr}, RpTk K G H kvs xs o → cntT kvs k = 0 → RpTk K G H (kvs.map f) (xs.map g) o
  | [], _, _, h, _ => by rw [h.1, h.2]; exact ⟨rfl, rfl⟩
  | (j, d) :: r, _, _, ⟨v, r', o1, o2, h1, h2, h3, h4⟩, hc => by
    subst h1
    have hj : j ≠ k := fun e => by simp [cntT, e] at hc
    have hc' : cntT r k = 0 := by simpa [cntT, hj] using hc
    rw [List.map_cons, List.map_cons, hf (j, d) hj, hg (j, v) hj]
    exact ⟨v, _, o1, o2, rfl, h2, RpTk.noKey f g hf hg h3 hc', h4⟩
theorem RpTk.put {k : Key} {t : T} {v : V} {o' : List Addr} (ht : Rp K G H t v o') : ∀ {kvs : List (Key × T)} {xs : List (Key × V)} {o : List Addr}, RpTk K G H kvs xs o → okPut kvs k t = true → ∃ o3 rest, RpTk K G H (putT kvs k t) (putK xs k v) o3 ∧ (o ++ o').Perm (o3 ++ rest) := by
  intro kvs xs o h hok
  unfold putT putK
  rw [h.any k]
  by_cases ha : (kvs.any fun kv => decide (kv.1 = k)) = true
  · rw [if_pos ha, if_pos ha]
    unfold okPut at hok
    rw [Bool.or_eq_true] at hok
    rcases hok with hp | hc
    · -- a pure thing
      cases t with
      | p d =>
        have eo : o' = [] := ht.2
        subst eo
        clear ha
        induction kvs generalizing xs o with
        | nil => exact ⟨[], [], by rw [h.1]; exact ⟨rfl, rfl⟩, by rw [h.2]⟩
        | cons kv r ih =>
          obtain ⟨j, x⟩ := kv
          obtain ⟨w, r', o1, o2, h1, h2, h3, h4⟩ := h
          subst h1
          obtain ⟨o3, rest, q1, q2⟩ := ih h3
          rw [List.append_nil] at q2
          by_cases c : j = k
          · refine ⟨o3, o1 ++ rest, ?_, ?_⟩
            · rw [List.map_cons, List.map_cons, if_pos c, if_pos c]
              exact ⟨v, _, [], o3, rfl, ht, q1, rfl⟩
            · rw [h4, List.append_nil]
              exact (List.Perm.append_left o1 q2).trans (perm_mid _ _ _)
          · refine ⟨o1 ++ o3, rest, ?_, ?_⟩
            · rw [List.map_cons, List.map_cons, if_neg c, if_neg c]
              exact ⟨w, _, o1, o3, rfl, h2, q1, rfl⟩
            · rw [h4, List.append_nil, List.append_assoc]
              exact List.Perm.append_left o1 q2
      | _ => cases hp
    · replace hc := of_decide_eq_true hc
      clear ha
      induction kvs generalizing xs o with
      | nil => exact ⟨[], o', by rw [h.1]; exact ⟨rfl, rfl⟩, by rw [h.2]⟩
      | cons kv r ih =>
        obtain ⟨j, x⟩ := kv
        obtain ⟨w, r', o1, o2, h1, h2, h3, h4⟩ := h
        subst h1
        by_cases c : j = k
        · have hc0 : cntT r k = 0 := by simp [cntT, c] at hc ⊢; exact hc
          have q := RpTk.noKey (k := k) (fun kv => if kv.1 = k then (kv.1, t) else kv) (fun kv => if kv.1 = k then (kv.1, v) else kv) (fun kv e => if_neg e) (fun kv e => if_neg e) h3 hc0
          refine ⟨o' ++ o2, o1, ?_, ?_⟩
          · rw [List.map_cons, List.map_cons, if_pos c, if_pos c]
            exact ⟨v, _, o', o2, rfl, ht, q, rfl⟩
          · rw [h4]
            have cnt : ∀ x, List.count x (o1 ++ o2 ++ o') = List.count x (o' ++ o2 ++ o1) := fun x => by simp only [List.count_append]; omega
            exact List.perm_iff_count.mpr cnt
        · have hc0 : cntT r k ≤ 1 := by simpa [cntT, c] using hc
          obtain ⟨o3, rest, q1, q2⟩ := ih h3 hc0
          refine ⟨o1 ++ o3, rest, ?_, ?_⟩
          · rw [List.map_cons, List.map_cons, if_neg c, if_neg c]
            exact ⟨w, _, o1, o3, rfl, h2, q1, rfl⟩
          · rw [h4, List.append_assoc, List.append_assoc]
            exact List.Perm.append_left o1 q2
  · rw [if_neg ha, if_neg ha]
    refine ⟨o ++ o', [], ?_, by simp⟩
    clear hok ha
    induction kvs generalizing xs o with
    | nil => rw [h.1, h.2]; exact ⟨v, [], o', [], rfl, ht, ⟨rfl, rfl⟩, by simp⟩
    | cons kv r ih =>
      obtain ⟨j, x⟩ := kv
      obtain ⟨w, r', o1, o2, h1, h2, h3, h4⟩ := h
      subst h1; subst h4
      rw [List.append_assoc]
      exact ⟨w, _, o1, o2 ++ o', rfl, h2, ih h3, rfl⟩
theorem RpTk.drop (k : Key) : ∀ {kvs : List (Key × T)} {xs : List (Key × V)} {o : List Addr}, RpTk K G H kvs xs o → ∃ o3 rest, RpTk K G H (dropT kvs k) (dropK xs k) o3 ∧ o.Perm (o3 ++ rest)
  | [], _, _, h => ⟨[], [], by rw [h.1]; exact ⟨rfl, rfl⟩, by rw [h.2]; simp⟩
  | (j, t) :: r, _, _, ⟨w, r', o1, o2, h1, h2, h3, h4⟩ => by
    subst h1
    obtain ⟨o3, rest, q1, q2⟩ := RpTk.drop k h3
    unfold dropT dropK at q1 ⊢
    by_cases c : j = k
    · refine ⟨o3, o1 ++ rest, ?_, ?_⟩
      · rw [List.filter_cons_of_neg (by simpa using c), List.filter_cons_of_neg (by simpa using c)]; exact q1
      · rw [h4]; exact (List.Perm.append_left o1 q2).trans (perm_mid _ _ _)
    · refine ⟨o1 ++ o3, rest, ?_, ?_⟩
      · rw [List.filter_cons_of_pos (by simpa using c), List.filter_cons_of_pos (by simpa using c)]
        exact ⟨w, _, o1, o3, rfl, h2, q1, rfl⟩
      · rw [h4, List.append_assoc]; exact List.Perm.append_left o1 q2
/-- .. with the first of them in hand -/
theorem RpTk.take (k : Key) : ∀ {kvs : List (Key × T)} {xs : List (Key × V)} {o : List Addr} {t : T}, RpTk K G H kvs xs o → valT kvs k = some t → ∃ w o3 o4 rest, valV xs k = some w ∧ Rp K G H t w o4 ∧ RpTk K G H (dropT kvs k) (dropK xs k) o3 ∧ o.Perm (o3 ++ o4 ++ rest)
  | [], _, _, _, _, e => by simp [valT] at e
  | (j, t) :: r, _, _, u, ⟨w, r', o1, o2, h1, h2, h3, h4⟩, e => by
    subst h1
    by_cases c : j = k
    · rw [valT, if_pos c] at e; cases e
      obtain ⟨o3, rest, q1, q2⟩ := RpTk.drop k h3
      refine ⟨w, o3, o1, rest, valV_pos (by exact c), h2, ?_, ?_⟩
      · unfold dropT dropK at q1 ⊢
        rw [List.filter_cons_of_neg (by simpa using c), List.filter_cons_of_neg (by simpa using c)]; exact q1
      · rw [h4]
        refine (List.Perm.append_left o1 q2).trans ?_
        rw [← List.append_assoc]
        exact List.Perm.append_right _ List.perm_append_comm
    · rw [valT, if_neg c] at e
      obtain ⟨w', o3, o4, rest, f1, f2, f3, f4⟩ := RpTk.take k h3 e
      refine ⟨w', o1 ++ o3, o4, rest, (valV_neg (by exact c)).trans f1, f2, ?_, ?_⟩
      · unfold dropT dropK at f3 ⊢
        rw [List.filter_cons_of_pos (by simpa using c), List.filter_cons_of_pos (by simpa using c)]
        exact ⟨w, _, o1, o3, rfl, h2, f3, rfl⟩
      · rw [h4, List.append_assoc, List.append_assoc]
        exact List.Perm.append_left o1 (by rw [List.append_assoc] at f4; exact f4)
theorem RpTk.noVal (k : Key) : ∀ {kvs : List (Key × T)} {xs : List (Key × V)} {o : List Addr}, RpTk K G H kvs xs o → valT kvs k = none → valV xs k = none
  | [], _, _, h, _ => by rw [h.1]; rfl
  | (j, t) :: r, _, _, ⟨w, r', o1, o2, h1, h2, h3, h4⟩, e => by
    subst h1
    by_cases c : j = k
    · rw [valT, if_pos c] at e; cases e
    · rw [valT, if_neg c] at e
      exact (valV_neg (by exact c)).trans (RpTk.noVal k h3 e)
theorem RpTf.put {f : Str} {t : T} {v : V} {o' : List Addr} (ht : Rp K G H t v o') : ∀ {fs : List (Str × T)} {xs : List (Str × V)} {o : List Addr}, RpTf K G H fs xs o → ∃ o3 rest, RpTf K G H (putFT fs f t) (putF f v xs) o3 ∧ (o ++ o').Perm (o3 ++ rest)
  | [], _, _, h => ⟨o', [], by rw [h.1]; exact ⟨v, [], o', [], rfl, ht, ⟨rfl, rfl⟩, by simp⟩, by rw [h.2]; simp⟩
  | (j, x) :: r, _, _, ⟨w, r', o1, o2, h1, h2, h3, h4⟩ => by
    subst h1
    by_cases c : j = f
    · refine ⟨o' ++ o2, o1, ?_, ?_⟩
      · rw [putFT, putF, if_pos c, if_pos c]
        exact ⟨v, _, o', o2, rfl, ht, h3, rfl⟩
      · rw [h4]
        exact List.perm_iff_count.mpr fun x => by simp only [List.count_append]; omega
    · obtain ⟨o3, rest, q1, q2⟩ := RpTf.put ht h3
      refine ⟨o1 ++ o3, rest, ?_, ?_⟩
      · rw [putFT, putF, if_neg c, if_neg c]
        exact ⟨w, _, o1, o3, rfl, h2, q1, rfl⟩
      · rw [h4, List.append_assoc, List.append_assoc]
        exact List.Perm.append_left o1 q2
theorem RpTf.len : ∀ {kvs : List (Str × T)} {xs : List (Str × V)} {o : List Addr}, RpTf K G H kvs xs o → xs.length = kvs.length
  | [], _, _, h => by rw [h.1]; rfl
  | (j, d) :: r, _, _, ⟨v, r', o1, o2, h1, h2, h3, h4⟩ => by rw [h1, List.length_cons, List.length_cons, RpTf.len h3]
theorem RpTf.noVal (k : Str) : ∀ {kvs : List (Str × T)} {xs : List (Str × V)} {o : List Addr}, RpTf K G H kvs xs o → valT kvs k = none → xs.lookup k = none
  | [], _, _, h, _ => by rw [h.1]; rfl
  | (j, t) :: r, _, _, ⟨w, r', o1, o2, h1, h2, h3, h4⟩, e => by
    subst h1
    by_cases c : j = k
    · rw [valT, if_pos c] at e; cases e
    · rw [valT, if_neg c] at e
      rw [lookup_cons, if_neg c]
      exact RpTf.noVal k h3 e
end
/-! ### stores -/
theorem wN {H : Hp} {a : Addr} {cell : HO} {o : List Addr} (h : a ∉ o) : ∀ b ∈ o, upd H a cell b = H b := fun b hb => upd_ne (fun e => h (e ▸ hb))
section
variable {X : Cx} {e o k : Expr} {te to tk : TE} {f fk : EF} {fo : PF} {i : Nat} {pos cpos apos ipos tpos : Pos}
/-- p.append(e) -/
def sAppP (i : Nat) (fo : PF) (f : EF) : SF := fun env => (fo env).bind fun r => (atP r.2 i r.1).bind fun t0 => match unb t0 with
  | .lst _ => (f r.2).bind fun s => (atP s.2 i r.1).bind fun t => match unb t with
    | .lst us => if us.length < 16000000 then some (.nx, putP s.2 i r.1 (reb t (.lst (us ++ [s.1])))) else none
    | _ => none
  | _ => none
theorem ds_appP (ho : DP X o to i fo) (h : DT X e te f) (hb : attributeBase o "append" X.env (eval o X.env) = eval o X.env := by rfl)
    (hse : starEach [e] X.env = (false, eval e X.env) :: starEach [] X.env := by rfl)
    (hfew : ((backTo cpos (starEach [e] X.env)).all (fun x => !x.1) && (backToKw cpos (keywordEach [] X.env)).all (fun x => x.1.isSome)
      && decide ([e].length + ([] : List Keyword).length + (if ([] : List Keyword).isEmpty then 0 else 1) < 30)) = true := by rfl)
    (hline : (apos.endLine == cpos.line) = true := by rfl)
    (hs : swapsWith (.Call (.Attribute o "append" apos) [e] [] cpos) none pos.line X.env = pure false := by rfl) :
    DS X (.Expr (.Call (.Attribute o "append" apos) [e] [] cpos) pos) (tDrop (tBM X.K "list" rAppend to (tCons te tNil))) (sAppP i fo f) [] := by
  refine ⟨ps_expr (pe_bm PySem.F.plainAttrs_list PySem.F.slot_list_append PySem.F.type_list_append mt_append ho.pe (pa_cons h.pe pa_nil hse) hb hfew hline hse rfl) hs, ?_⟩
  intro G0 H0 H ts vs env σ fl env' S g D q
  obtain ⟨⟨P, e1⟩, g1, g2⟩ := obind g
  obtain ⟨t0, g3, g4⟩ := obind g2
  dsimp only at g4
  split at g4
  · rename_i us0 hu0
    obtain ⟨⟨y, e2⟩, g5, g6⟩ := obind g4
    obtain ⟨t, g7, g8⟩ := obind g6
    dsimp only at g8
    split at g8
    · rename_i us hu
      split at g8
      · rename_i hl
        cases g8
        refine ho.ok _ _ _ _ _ _ _ _ _ _ S g1 _ fun v w H1 s1 S1 hv hc => ?_
        obtain ⟨tt0, k1, k2⟩ := atP_eq g3
        obtain ⟨G, o1, r, sG⟩ := S1.at' k1 k2 hv hc
        have r := r.unb
        rw [hu0] at r
        obtain ⟨a, xs0, o', h1, h2, _⟩ := r
        subst h1
        refine ⟨.inl ⟨rfl, xs0, .inl (.inl h2)⟩, ?_⟩
        refine h.ok _ _ _ _ _ _ _ _ _ _ S1 g5 _ fun x H2 s2 S2 => ?_
        obtain ⟨tt, k3, k4⟩ := atP_eq g7
        obtain ⟨G2, p1, p2, r1, r2, nd, sG2, fr, wr⟩ := OkS.wr (es := [y]) (ws := [x]) S2 rfl k3 k4 hv (hc.same s2)
        have ru := r1.unb
        rw [hu] at ru
        obtain ⟨a', xs, o2, h1', h2', h3', h4'⟩ := ru
        cases h1'
        subst h4'
        have nd' : (a :: (o2 ++ p2)).Nodup := nd
        have na : a ∉ o2 ++ p2 := (List.nodup_cons.mp nd').1
        refine ⟨a, xs, x, rfl, rfl, h2', by rw [h3'.len, sizeLine_eq]; omega, ?_⟩
        have r3 := (h3'.append r2).mono (Same.refl G2) (H' := upd H2 a (.lst (xs ++ [x]))) _ (wN na)
        have S3 := wr a (.lst (xs ++ [x])) (reb t (.lst (us ++ [y]))) [] [] (a :: (o2 ++ p2)) [] [] (by simp) (r1.reb ⟨a, _, _, rfl, upd_same, r3, rfl⟩) ⟨rfl, rfl⟩ (by simp)
        rw [← putP_eq k3] at S3
        exact q _ _ S3 .rfl'
      · cases g8
    · cases g8
  · cases g4
/-- p[k] = e, p a dict -/
def sPutP (i : Nat) (fo : PF) (fk f : EF) : SF := fun env => (f env).bind fun r => (fo r.2).bind fun p => (fk p.2).bind fun s => (keyT s.1).bind fun k => (atP s.2 i p.1).bind fun t => match unb t with
  | .dic kvs => if kvs.length < 16000000 ∧ okPut kvs k r.1 = true then some (.nx, putP s.2 i p.1 (reb t (.dic (putT kvs k r.1)))) else none
  | _ => none
theorem ds_putP (hu : X.A.units + 1 < cLine) (ho : DP X o to i fo) (hk : DT X k tk fk) (h : DT X e te f) (hs : swapsWith e (some (.Subscript o k ipos)) pos.line X.env = pure false := by rfl) : DS X (.Assign [.Subscript o k ipos] e pos) (sDPut to tk te) (sPutP i fo fk f) [] := by
  refine ⟨ps_dput hu ho.pe hk.pe h.pe hs, ?_⟩
  intro G0 H0 H ts vs env σ fl env' S g D q
  obtain ⟨⟨y, e1⟩, g1, g2⟩ := obind g
  obtain ⟨⟨P, e2⟩, g3, g4⟩ := obind g2
  obtain ⟨⟨z, e3⟩, g5, g6⟩ := obind g4
  obtain ⟨kk, g7, g8⟩ := obind g6
  obtain ⟨t, g9, g10⟩ := obind g8
  dsimp only at g10
  split at g10
  · rename_i kvs hun
    split at g10
    · rename_i hl
      cases g10
      cases z with
      | p kd =>
        refine h.ok _ _ _ _ _ _ _ _ _ _ S g1 _ fun x H1 s1 S1 => ?_
        refine ho.ok _ _ _ _ _ _ _ _ _ _ S1 g3 _ fun v w H2 s2 S2 hv hc => ?_
        refine hk.ok _ _ _ _ _ _ _ _ _ _ S2 g5 _ fun kx H3 s3 S3 => ?_
        have ek : kx = L2.kV kk := keyD_rp (show keyD kd = some kk from g7) S3.top
        obtain ⟨tt, k3, k4⟩ := atP_eq g9
        obtain ⟨G2, p1, p2, r1, r2, nd, sG2, fr, wr⟩ := OkS.wr (es := [y]) (ws := [x]) S3.pop rfl k3 k4 hv (hc.same s3)
        have ru := r1.unb
        rw [hun] at ru
        obtain ⟨a, xs, o2, h1, h2, h3, h4⟩ := ru
        subst h1; subst h4
        have na : a ∉ o2 ++ p2 := (List.nodup_cons.mp (show (a :: (o2 ++ p2)).Nodup from nd)).1
        refine ⟨a, _, rfl, by rw [ek]; exact DPut.k h2 (by rw [h3.len, sizeLine_eq]; omega), ?_⟩
        obtain ⟨x', r', q1, q2, q3, q4, q5, q6⟩ := r2
        cases q3
        obtain ⟨e7, e8⟩ := q5
        cases e7
        subst e8
        rw [List.append_nil] at q6
        subst q6
        have m1 := h3.mono (Same.refl G2) (H' := upd H3 a (.dK (putK xs kk x))) _ (wN fun hm => na (by simp [hm]))
        have m2 := q4.mono (Same.refl G2) (H' := upd H3 a (.dK (putK xs kk x))) _ (wN fun hm => na (by simp [hm]))
        obtain ⟨o5, rest, f1, f2⟩ := m1.put m2 hl.2
        have S4 := wr a (.dK (putK xs kk x)) (reb t (.dic (putT kvs kk y))) [] [] (a :: o5) [] rest (by simp) (r1.reb ⟨a, _, _, rfl, upd_same, f1, rfl⟩) ⟨rfl, rfl⟩ (by
          simp only [List.cons_append, List.append_nil]
          exact List.Perm.cons a f2)
        rw [← putP_eq k3] at S4
        exact q _ _ S4 .rfl'
      | _ => cases g7
    · cases g10
  · cases g10
/-- p.f = e, p an object -/
def sFldP (n a : Str) (i : Nat) (fo : PF) (f : EF) : SF := fun env => (f env).bind fun r => (fo r.2).bind fun p => (atP p.2 i p.1).bind fun t => match unb t with
  | .obj m fs => if m = n ∧ fs.length < 900 then some (.nx, putP p.2 i p.1 (reb t (.obj m (putFT fs a r.1)))) else none
  | _ => none
theorem ds_fldP {n a : Str} (hA : Att X.K n a) (ho : DP X o to i fo) (h : DT X e te f) (hs : swapsWith e (some (.Attribute o a ipos)) pos.line X.env = pure false := by rfl) : DS X (.Assign [.Attribute o a ipos] e pos) (sFld X.K to te a) (sFldP n a i fo f) [] := by
  refine ⟨ps_fld ho.pe h.pe hs, ?_⟩
  intro G0 H0 H ts vs env σ fl env' S g D q
  obtain ⟨⟨y, e1⟩, g1, g2⟩ := obind g
  obtain ⟨⟨P, e2⟩, g3, g4⟩ := obind g2
  obtain ⟨t, g9, g10⟩ := obind g4
  dsimp only at g10
  split at g10
  · rename_i m fs hun
    split at g10
    · rename_i hl
      obtain ⟨hm, hl⟩ := hl
      subst hm
      cases g10
      refine h.ok _ _ _ _ _ _ _ _ _ _ S g1 _ fun x H1 s1 S1 => ?_
      refine ho.ok _ _ _ _ _ _ _ _ _ _ S1 g3 _ fun v w H2 s2 S2 hv hc => ?_
      obtain ⟨tt, k3, k4⟩ := atP_eq g9
      obtain ⟨G2, p1, p2, r1, r2, nd, sG2, fr, wr⟩ := OkS.wr (es := [y]) (ws := [x]) S2 rfl k3 k4 hv hc
      have ru := r1.unb
      rw [hun] at ru
      obtain ⟨ad, C, dx, xs, o2, h1, h0, h2, h3, h4⟩ := ru
      subst h1; subst h4
      obtain ⟨c1, c2⟩ := hA C h0
      have na : ad ∉ o2 ++ p2 := (List.nodup_cons.mp (show (ad :: (o2 ++ p2)).Nodup from nd)).1
      refine ⟨ad, C, dx, xs, rfl, h2, c1, c2, by rw [h3.len]; omega, ?_⟩
      obtain ⟨x', r', q1, q2, q3, q4, q5, q6⟩ := r2
      cases q3
      obtain ⟨e7, e8⟩ := q5
      cases e7
      subst e8
      rw [List.append_nil] at q6
      subst q6
      have m1 := h3.mono (Same.refl G2) (H' := upd H2 ad (.ins C dx (putF a x xs))) _ (wN fun hm => na (by simp [hm]))
      have m2 := q4.mono (Same.refl G2) (H' := upd H2 ad (.ins C dx (putF a x xs))) _ (wN fun hm => na (by simp [hm]))
      obtain ⟨o5, rest, f1, f2⟩ := m1.put (f := a) m2
      have S4 := wr ad (.ins C dx (putF a x xs)) (reb t (.obj m (putFT fs a y))) [] [] (ad :: o5) [] rest (by simp) (r1.reb ⟨ad, C, dx, _, _, rfl, h0, upd_same, f1, rfl⟩) ⟨rfl, rfl⟩ (by
        simp only [List.cons_append, List.append_nil]
        exact List.Perm.cons ad f2)
      rw [← putP_eq k3] at S4
      exact q _ _ S4 .rfl'
    · cases g10
  · cases g10
end
end DL

set_option Elab.async false
set_option linter.all false
set_option maxRecDepth 100000
set_option maxHeartbeats 1000000
/-! Expressions that change what stands; calls that are lent a thing; objects made. -/
namespace DL
open PySem PySem.Spec PyProof.Rows L2
def EvX (K : PySem.W.Frag) (te : TE) (f : EF) : Prop := ∀ (G0 H0 H : Hp) (ts : List T) (vs : List V) (env : Env) (σ : St) (t : T) (env' : Env), OkS K G0 H0 [] H ts vs env σ → f env = some (t, env') →
  ∀ Q : VK, (∀ v H', OkS K G0 H0 [] H' (t :: ts) (v :: vs) env' σ → Q v H') → te σ H Q
def EvAX (K : PySem.W.Frag) (ta : TA) (f : AF) : Prop := ∀ (G0 H0 H : Hp) (ts : List T) (vs : List V) (env : Env) (σ : St) (us : List T) (env' : Env), OkS K G0 H0 [] H ts vs env σ → f env = some (us, env') →
  ∀ Q : List V → Hp → Prop, (∀ ws H', ws.length = us.length → OkS K G0 H0 [] H' (us ++ ts) (ws ++ vs) env' σ → Q ws H') → ta σ H Q
structure DX (X : Cx) (e : Expr) (te : TE) (f : EF) : Prop where
  pe : PE X e te
  ok : EvX X.K te f
structure DAX (X : Cx) (es : List Expr) (ta : TA) (f : AF) : Prop where
  pa : PA X es ta
  ok : EvAX X.K ta f
section
variable {X : Cx} {e a b : Expr} {es : List Expr} {te ta tb : TE} {tr : TA} {f fa fb : EF} {fr : AF} {pos : Pos}
theorem DT.dx (h : DT X e te f) : DX X e te f := ⟨h.pe, fun G0 H0 H ts vs env σ t env' S g Q q => h.ok _ _ _ _ _ _ _ _ _ _ S g Q fun v H' _ S' => q v H' S'⟩
theorem DA.dx (h : DA X es tr fr) : DAX X es tr fr := ⟨h.pa, fun G0 H0 H ts vs env σ t env' S g Q q => h.ok _ _ _ _ _ _ _ _ _ _ S g Q fun v H' _ hl S' => q v H' hl S'⟩
theorem dax_nil : DAX X [] tNil aN := da_nil.dx
theorem dax_cons (h : DX X e te f) (hr : DAX X es tr fr) (hs : starEach (e :: es) X.env = (false, eval e X.env) :: starEach es X.env := by rfl) : DAX X (e :: es) (tCons te tr) (aC f fr) := by
  refine ⟨pa_cons h.pe hr.pa hs, ?_⟩
  intro G0 H0 H ts vs env σ us env' S g Q q
  obtain ⟨⟨x, e1⟩, h1, h2⟩ := obind g
  obtain ⟨⟨y, e2⟩, h3, h4⟩ := omap h2
  cases h4
  refine h.ok _ _ _ _ _ _ _ _ _ S h1 _ fun v H1 S1 => ?_
  refine hr.ok _ _ _ _ _ _ _ _ _ S1 h3 _ fun ws H2 hl S2 => ?_
  exact q (v :: ws) H2 (by simp [hl]) (S2.mid hl)
theorem dx_tup {k} (h : DAX X es tr fr) : DX X (.Tuple es k pos) (tTup tr) (eT fr) := by
  refine ⟨pe_tup h.pa, ?_⟩
  intro G0 H0 H ts vs env σ t env' S g Q q
  obtain ⟨⟨x, e1⟩, h1, h2⟩ := obind g
  by_cases hl : x.length ≤ 1000
  · rw [if_pos hl] at h2
    cases h2
    refine h.ok _ _ _ _ _ _ _ _ _ S h1 _ fun ws H1 hw S1 => ⟨by rw [hw]; exact le1000 hl, fun p hp => ?_⟩
    exact q _ _ (S1.newT hw hp)
  · rw [if_neg hl] at h2; cases h2
theorem dx_lst (h : DAX X es tr fr) : DX X (.List es pos) (tLst tr) (eL fr) := by
  refine ⟨pe_lst h.pa, ?_⟩
  intro G0 H0 H ts vs env σ t env' S g Q q
  obtain ⟨⟨x, e1⟩, h1, h2⟩ := obind g
  by_cases hl : x.length ≤ 1000
  · rw [if_pos hl] at h2
    cases h2
    refine h.ok _ _ _ _ _ _ _ _ _ S h1 _ fun ws H1 hw S1 => ⟨by rw [hw]; exact le1000 hl, fun p hp => ?_⟩
    exact q _ _ (S1.newL hw hp)
  · rw [if_neg hl] at h2; cases h2
theorem dx_op {op : Operator} {r : R2} {g : D → D → Option D} (ho : OpR X (binaryOp op) r) (hs : Sc2 r g) (ha : DX X a ta fa) (hb : DX X b tb fb) : DX X (.BinOp a op b pos) (tOp r ta tb) (eOp g fa fb) := by
  refine ⟨pe_op ho ha.pe hb.pe, ?_⟩
  intro G0 H0 H ts vs env σ t env' S e Q q
  obtain ⟨a, e1, b, d, h1, h2, h3, rfl⟩ := eOp_some e
  refine ha.ok _ _ _ _ _ _ _ _ _ S h1 _ fun v H1 S1 => ?_
  refine hb.ok _ _ _ _ _ _ _ _ _ S1 h2 _ fun w H2 S2 => ?_
  exact hs a b d h3 X.K H2 v w Q S2.pop.top S2.top fun u hu => q u H2 (S2.pop.pop.scal hu)
theorem dx_add (ha : DX X a ta fa) (hb : DX X b tb fb) : DX X (.BinOp a .Add b pos) (tOp rAddA ta tb) (eOp gAdd fa fb) := dx_op op_addA sc_add ha hb
theorem dx_sub (ha : DX X a ta fa) (hb : DX X b tb fb) : DX X (.BinOp a .Sub b pos) (tOp (rI0 fun i j => .int (i - j)) ta tb) (eOp gSub fa fb) := dx_op op_sub sc_int0 ha hb
theorem dx_fz (h : DX X e te f) : DX X e te (eFz f) := by
  refine ⟨h.pe, ?_⟩
  intro G0 H0 H ts vs env σ t env' S g Q q
  obtain ⟨⟨x, e1⟩, h1, h2⟩ := omap g
  cases h2
  exact h.ok _ _ _ _ _ _ _ _ _ S h1 _ fun v H1 S1 => q v H1 S1.frz
/-! ### statements of such expressions -/
theorem ds_setX {i : Nat} {x : Str} {pos' : Pos} (hN : X.N.Nodup) (hi : X.N[i]? = some x) (hx : Loc X.env.scope x) (he : DX X e te f) (hs : swapsWith e (some (.Name x pos')) pos.line X.env = pure false := by rfl) (hf : X.fn x = true ∨ X.env.scope.names.lookup x = some .local := by first | exact .inl rfl | exact .inr rfl | assumption) :
    DS X (.Assign [.Name x pos'] e pos) (tAsg te (gName i)) (sSet i f) [i] := by
  refine ⟨ps_set hN hi hx he.pe hs hf, ?_⟩
  intro G0 H0 H ts vs env σ fl env' S g D q
  obtain ⟨⟨x, e1⟩, g1, g2⟩ := obind g
  by_cases hi : i < e1.length
  · rw [if_pos hi] at g2
    cases g2
    exact he.ok _ _ _ _ _ _ _ _ _ S g1 _ fun v H' S' => q H' _ (S'.put hi) .set
  · rw [if_neg hi] at g2; cases g2
theorem ds_dropX (h : DX X e te f) (hs : swapsWith e none pos.line X.env = pure false := by rfl) : DS X (.Expr e pos) (tDrop te) (sDrop f) [] := by
  refine ⟨ps_expr h.pe hs, ?_⟩
  intro G0 H0 H ts vs env σ fl env' S g D q
  obtain ⟨⟨x, e1⟩, g1, g2⟩ := omap g
  cases g2
  exact h.ok _ _ _ _ _ _ _ _ _ S g1 _ fun v H' S' => q H' σ S'.pop .rfl'
theorem ds_retX (h : DX X e te f) : DS X (.Return (some e) pos) (tRet te) (sRet f) [] := by
  refine ⟨ps_ret h.pe, ?_⟩
  intro G0 H0 H ts vs env σ fl env' S g D q
  obtain ⟨⟨x, e1⟩, g1, g2⟩ := omap g
  cases g2
  exact h.ok _ _ _ _ _ _ _ _ _ S g1 _ fun v H' S' => q v H' σ S' .rfl'
theorem ds_asgX {tg : Expr} {g : TG} {G : GF} {sl : List Nat} (he : DX X e te f) (hg : DG X tg g G sl) (hs : swapsWithSole [tg] e pos.line X.env = pure false := by rfl) (hw : swappedStores [tg] e X.env = pure none := by rfl)
    (h1 : (assignEach [tg] X.env).map (·.2) = [assign tg X.env] := by rfl) : DS X (.Assign [tg] e pos) (tAsg te g) (sAsg f G) sl := by
  refine ⟨ps_asg he.pe hg.pg hs hw h1, ?_⟩
  intro G0 H0 H ts vs env σ fl env' S k D q
  obtain ⟨⟨t, e1⟩, g1, g2⟩ := obind k
  obtain ⟨e2, g3, g4⟩ := omap g2
  cases g4
  exact he.ok _ _ _ _ _ _ _ _ _ S g1 _ fun v H1 S1 => hg.ok _ _ _ _ _ _ _ _ _ _ _ S1 g3 _ fun σ' S' f' => q H1 σ' S' f'
end
/-! ### d.pop(k, x) -/
def ePop (i : Nat) (fo : PF) (fk fx : EF) : EF := fun env => (fo env).bind fun r => (atP r.2 i r.1).bind fun t0 => match unb t0 with
  | .dic _ => (fk r.2).bind fun s => (fx s.2).bind fun x => (keyT s.1).bind fun k => (atP x.2 i r.1).bind fun t => match unb t with
    | .dic kvs => some (match valT kvs k with
      | some u => (u, putP x.2 i r.1 (reb t (.dic (dropT kvs k))))
      | none => (x.1, x.2))
    | _ => none
  | _ => none
section
variable {X : Cx} {e o k x : Expr} {te to tk tx : TE} {f fk fx : EF} {fo : PF} {i : Nat} {pos cpos apos ipos tpos : Pos}
theorem dx_pop (ho : DP X o to i fo) (hk : DT X k tk fk) (hx : DT X x tx fx) (m : M2 X o "pop" apos k x cpos := by exact ⟨by rfl, by rfl, by rfl, by rfl⟩) : DX X (.Call (.Attribute o "pop" apos) [k, x] [] cpos) (tDPop2 to tk tx) (ePop i fo fk fx) := by
  refine ⟨pe_dpop2 ho.pe hk.pe hx.pe m, ?_⟩
  intro G0 H0 H ts vs env σ t env' S g Q q
  obtain ⟨⟨P, e1⟩, g1, g2⟩ := obind g
  obtain ⟨t0, g3, g4⟩ := obind g2
  dsimp only at g4
  split at g4
  · rename_i kvs0 hu0
    obtain ⟨⟨z, e2⟩, g5, g6⟩ := obind g4
    obtain ⟨⟨y, e3⟩, g7, g8⟩ := obind g6
    obtain ⟨kk, g9, g10⟩ := obind g8
    obtain ⟨t1, g11, g12⟩ := obind g10
    dsimp only at g12
    split at g12
    · rename_i kvs hun
      cases z with
      | p kd =>
        refine ho.ok _ _ _ _ _ _ _ _ _ _ S g1 _ fun v w H1 s1 S1 hv hc => ?_
        obtain ⟨tt0, k1, k2⟩ := atP_eq g3
        obtain ⟨G, o1, r, sG⟩ := S1.at' k1 k2 hv hc
        have r := r.unb
        rw [hu0] at r
        obtain ⟨a, xs0, o', h1, h2, _⟩ := r
        subst h1
        refine ⟨a, rfl, .inl ⟨xs0, .inl h2⟩, ?_⟩
        refine hk.ok _ _ _ _ _ _ _ _ _ _ S1 g5 _ fun kx H2 s2 S2 => ?_
        have ek : kx = L2.kV kk := keyD_rp (show keyD kd = some kk from g9) S2.top
        refine hx.ok _ _ _ _ _ _ _ _ _ _ S2.pop g7 _ fun dx H3 s3 S3 => ?_
        obtain ⟨tt, k3, k4⟩ := atP_eq g11
        have hc3 := (hc.same s2).same s3
        obtain ⟨G2, p1, p2, r1, r2, nd, sG2, fr, wr⟩ := OkS.wr (es := []) (ws := []) S3.pop rfl k3 k4 hv hc3
        have ru := r1.unb
        rw [hun] at ru
        obtain ⟨a', xs, o2, h1', h2', h3', h4'⟩ := ru
        cases h1'
        subst h4'
        have e2' : p2 = [] := r2.2
        subst e2'
        have na : a ∉ o2 := fun hm => (List.nodup_cons.mp (show (a :: (o2 ++ [])).Nodup from nd)).1 (by simp [hm])
        refine ⟨xs, kk, h2', ek, fun u hu => ?_, fun hu => ?_⟩
        · cases hvt : valT kvs kk with
          | none => rw [h3'.noVal kk hvt] at hu; cases hu
          | some ut =>
            rw [hvt] at g12
            have g12 : (ut, putP e3 i P (reb t1 (.dic (dropT kvs kk)))) = (t, env') := Option.some.inj g12
            cases g12
            obtain ⟨w', o3, o4, rest, f1, f2, f3, f4⟩ := h3'.take kk hvt
            rw [hu] at f1; cases f1
            have n4 : a ∉ o4 := fun hm => na (f4.mem_iff.mpr (by simp [hm]))
            have n3 : a ∉ o3 := fun hm => na (f4.mem_iff.mpr (by simp [hm]))
            have S4 := wr a (.dK (dropK xs kk)) (reb t1 (.dic (dropT kvs kk))) [t] [u] (a :: o3) o4 rest (by simp) (r1.reb ⟨a, _, _, rfl, upd_same, f3.mono (Same.refl _) _ (wN n3), rfl⟩) ⟨u, [], o4, [], rfl, f2.mono (Same.refl _) _ (wN n4), ⟨rfl, rfl⟩, by simp⟩ (by
              simp only [List.cons_append, List.append_nil]
              exact List.Perm.cons a f4)
            rw [← putP_eq k3] at S4
            exact q u _ S4
        · cases hvt : valT kvs kk with
          | none =>
            rw [hvt] at g12
            have g12 : (y, e3) = (t, env') := Option.some.inj g12
            cases g12
            exact q dx H3 S3
          | some ut =>
            obtain ⟨w', o3, o4, rest, f1, _⟩ := h3'.take kk hvt
            rw [hu] at f1; cases f1
      | _ => cases g9
    · cases g12
  · cases g4
end
/-! ### lent things -/
/-- a def's promise that changes its first argument -/
def spM (n : Nat) (φ : T → List D → Option (T × T)) (K : PySem.W.Frag) : Sp := fun vs H Q _ => ∃ (t0 : T) (ds : List D) (v0 : V) (vs' : List V) (t t' : T) (G : Hp) (o : List Addr), vs = v0 :: vs' ∧ ds.length = n ∧ φ t0 ds = some (t, t') ∧ Same G H ∧ Rp K G H t0 v0 o ∧ o.Nodup ∧ (∀ a ∈ o, G a = none) ∧ RpDs K G ds vs' ∧
  ∀ v G' H' o1 o2, Same G G' → Same G' H' → (∀ a u, a ∉ o → H a = some u → H' a = some u) → Rp K G' H' t v o1 → Rp K G' H' t' v0 o2 → (o1 ++ o2).Nodup → (∀ a ∈ o1 ++ o2, G' a = none ∧ (a ∈ o ∨ H a = none)) →
    (∀ a u, G' a = some u → G a ≠ none ∨ H a = none ∨ a ∈ o ∨ ∃ xs, u = .tup xs) → Q v H'
def startM (n : Nat) (t0 : T) (ds : List D) : Env := some t0 :: startE (n - 1) ds
def runM (n k : Nat) (F : SF) (t0 : T) (ds : List D) : Option (T × T) := if ds.length = k then (F (startM n t0 ds)).bind fun r => match r.2[0]? with
  | some (some t') => match r.1 with
    | .rt t => some (t, t')
    | .nx => some (.p .non, t')
    | _ => none
  | _ => none
  else none
theorem runM_len {n k : Nat} {F : SF} {t0 : T} {ds : List D} {r : T × T} (h : runM n k F t0 ds = some r) : ds.length = k := by
  unfold runM at h
  by_cases hl : ds.length = k
  · exact hl
  · rw [if_neg hl] at h; cases h
section
variable {P : Program} {w : World} {K : PySem.W.Frag} {mg : Str → Option Value} {base : Heap}
theorem okM {x qual : Str} {st : Stmt} {f : Addr} {fd : FuncData} {N ps : List Str} {k : Nat} {n np : Nat} {Fb : SF} (F : Fun K x qual st f fd) (S : FnScope N ps (defScope st)) (hn : N.length = n) (hnp : ps.length = np + 1) (hlt : 1 ≤ n)
    (hbody : ∀ (cdv : Value) (A : Around) (outer : List PySem.Env) (s : Shared) (H : Hp) (E : XK), Room k (A.deeper (envOfC qual (defScope st) s.heap.objs.size f cdv)) →
      ∃ t sl, DSs (cxOf CX0 P w K mg base N qual (defScope st) f cdv A outer s H E).nox (defBody st) t Fb sl ∧ 0 ∉ sl) : FnOk P w K mg base CX0 (k + 1) f fd ps (spM np (runM n np Fb) K) := by
  refine F.ok S (fun vs H Q E h => ?_) (fun cdv A outer s H vs Q E hr h => ?_)
  · obtain ⟨t0, ds, v0, vs', t, t', G, o, rfl, h1, _, _, _, _, _, h2, _⟩ := h
    rw [List.length_cons, h2.len, h1, hnp]
  · obtain ⟨t0, ds, v0, vs', t, t', G, o, rfl, h1, h2, h3, h4, h5, h6, h7, q⟩ := h
    obtain ⟨tr, sl, hd, h0⟩ := hbody cdv A outer s H E hr
    refine ⟨tr, hd.ps, ?_⟩
    unfold runM at h2
    rw [if_pos h1] at h2
    obtain ⟨⟨fl, e1⟩, g1, g2⟩ := obind h2
    have oH : ∀ a ∈ o, ∃ u, H a = some u := fun a ha => by
      obtain ⟨u, e, _⟩ := h4.there _ a ha
      exact ⟨u, e⟩
    have env0 : RpE K G H (startM n t0 ds) (start N (v0 :: vs')) o := by
      rw [L2_start, hn, List.map_cons, List.cons_append]
      refine ⟨v0, _, o, [], rfl, h4, ?_, by simp⟩
      rw [show n - (v0 :: vs').length = n - 1 - ds.length by rw [List.length_cons, h7.len]; omega]
      exact rpE_start h7
    have S0 : OkS K G (fun a => if a ∈ o then none else H a) [] H [] [] (startM n t0 ds) (start N (v0 :: vs')) := by
      refine ⟨G, [], o, ⟨rfl, rfl⟩, env0, by simpa using h5, fun a ha => ⟨h6 a (by simpa using ha), if_pos (by simpa using ha)⟩, Same.refl _, h3, fun a u e => ?_, fun a u e => .inl (by rw [e]; simp), fun q hq => by cases hq⟩
      by_cases c : a ∈ o
      · rw [if_pos c] at e; cases e
      · rw [if_neg c] at e; exact e
    have hσ0 : (start N (v0 :: vs'))[0]? = some (some v0) := by rw [L2_start]; rfl
    refine hd.ok G _ H [] [] _ _ fl e1 S0 g1 _ ?_
    have fin : ∀ (u : T) (v : V) (H' : Hp) (σ : St), OkS K G (fun a => if a ∈ o then none else H a) [] H' [u] [v] e1 σ → Dif sl (start N (v0 :: vs')) σ → u = t → e1[0]? = some (some t') → Q v H' := fun u v H' σ S1 df e et => by
      subst e
      have hσ : σ[0]? = some (some v0) := by rw [df.2 0 h0]; exact hσ0
      obtain ⟨G', ot, oe, s1⟩ := S1
      obtain ⟨w, r, o1, o2, a1, a2, a3, a4⟩ := s1.tmp
      cases a1
      have a5 : o2 = [] := a3.2
      subst a5
      rw [List.append_nil] at a4
      subst a4
      obtain ⟨v', oA, oB, b1, b2, b3, b4⟩ := s1.env.take et
      rw [hσ] at b1; cases b1
      have nd : (ot ++ oA).Nodup := by
        have : (ot ++ oe).Perm ((ot ++ oA) ++ oB) := by rw [List.append_assoc]; exact List.Perm.append_left _ b4
        exact (List.nodup_append.mp (this.nodup_iff.mp s1.nd)).1
      have fr : ∀ a ∈ ot ++ oA, G' a = none ∧ (a ∈ o ∨ H a = none) := fun a ha => by
        have hm : a ∈ ot ++ oe := by
          rcases List.mem_append.mp ha with ha | ha
          · exact List.mem_append_left _ ha
          · exact List.mem_append_right _ (b4.mem_iff.mpr (List.mem_append_left _ ha))
        obtain ⟨c1, c2⟩ := s1.fr a hm
        refine ⟨c1, ?_⟩
        by_cases c : a ∈ o
        · exact .inl c
        · rw [if_neg c] at c2; exact .inr c2
      refine q v G' H' ot oA s1.g0 s1.gh (fun a u c e => s1.h0 a u (by rw [if_neg c]; exact e)) a2 b2 nd fr fun a u e => ?_
      rcases s1.nw a u e with c | c | c
      · exact .inl c
      · by_cases ca : a ∈ o
        · exact .inr (.inr (.inl ca))
        · rw [if_neg ca] at c; exact .inr (.inl c)
      · exact .inr (.inr (.inr c))
    split at g2
    · rename_i t1 et
      have et : e1[0]? = some (some t1) := et
      cases fl with
      | nx =>
        have e : (T.p .non, t1) = (t, t') := Option.some.inj g2
        cases e
        exact fun H' σ' S1 df => fin _ _ H' σ' (S1.scal (z := .non) (u := .non) fun _ => rfl) df rfl et
      | rt u =>
        have e : (u, t1) = (t, t') := Option.some.inj g2
        cases e
        exact fun v H' σ' S1 df => fin _ _ H' σ' S1 df rfl et
      | bk => cases g2
      | ct => cases g2
    · cases g2
end
/-- a thing at a place is lent -/
theorem OkS.lend {K : PySem.W.Frag} {G0 H0 H : Hp} {ts : List T} {vs ws : List V} {ds : List D} {env : Env} {σ : St} {i : Nat} {P : List Stp} {t u : T} {v w : V} (S : OkS K G0 H0 [] H (ds.map T.p ++ ts) (ws ++ vs) env σ) (hw : ws.length = ds.length) (he : env[i]? = some (some t)) (hp : getP P t = some u)
    (hv : σ[i]? = some (some v)) (hc : Ch H P v w) : ∃ (G : Hp) (o1 : List Addr), Same G H ∧ Rp K G H u w o1 ∧ o1.Nodup ∧ (∀ a ∈ o1, G a = none) ∧ RpDs K G ds ws ∧
    ∀ (r : V) (G' H' : Hp) (p1 p2 : List Addr) (t' u' : T), Same G G' → Same G' H' → (∀ a x, a ∉ o1 → H a = some x → H' a = some x) → Rp K G' H' t' r p1 → Rp K G' H' u' w p2 → (p1 ++ p2).Nodup → (∀ a ∈ p1 ++ p2, G' a = none ∧ (a ∈ o1 ∨ H a = none)) →
      (∀ a x, G' a = some x → G a ≠ none ∨ H a = none ∨ a ∈ o1 ∨ ∃ xs, x = .tup xs) → OkS K G0 H0 [] H' (t' :: ts) (r :: vs) (env.set i (some (setP P t u'))) σ := by
  obtain ⟨G, ot, oe, s⟩ := S
  obtain ⟨o2, o5, k1, k2, k3⟩ := s.tmp.split (us := ds.map T.p) (by rw [List.length_map]; exact hw)
  obtain ⟨kd, k4⟩ := rpDs_of k1
  subst k4
  have k3 : ot = o5 := k3
  subst k3
  obtain ⟨v', oA, oB, e1, e2, e3, e4⟩ := s.env.take he
  rw [hv] at e1
  cases e1
  obtain ⟨w', o1, o6, f1, f2, f3, f4⟩ := e2.foc s.gh hp
  have := f1.det hc
  subst this
  have pm : (ot ++ oe).Perm (o1 ++ (o6 ++ (ot ++ oB))) := by
    have q1 : (ot ++ oe).Perm (ot ++ ((o1 ++ o6) ++ oB)) := List.Perm.append_left _ (e4.trans (List.Perm.append_right _ f3))
    refine q1.trans (List.perm_iff_count.mpr fun x => by simp only [List.count_append]; omega)
  have nd := pm.nodup_iff.mp s.nd
  have fr : ∀ b ∈ o1 ++ (o6 ++ (ot ++ oB)), G b = none ∧ H0 b = none := fun b hb => s.fr b (pm.mem_iff.mpr hb)
  have thr : ∀ b ∈ o6 ++ (ot ++ oB), ∃ x, H b = some x ∧ ∀ xs, x ≠ .tup xs := fun b hb => by
    have : b ∈ ot ++ oe := pm.mem_iff.mpr (List.mem_append_right _ hb)
    rcases List.mem_append.mp this with h | h
    · exact s.tmp.there _ b h
    · exact s.env.there _ b h
  refine ⟨G, o1, s.gh, f2, (List.nodup_append.mp nd).1, fun a ha => (fr a (List.mem_append_left _ ha)).1, kd, fun r G' H' p1 p2 t' u' g1 g2 g3 g4 g5 g6 g7 g8 => ?_⟩
  have out : ∀ b ∈ o6 ++ (ot ++ oB), b ∉ o1 := fun b hb h => (List.nodup_append.mp nd).2.2 b h b hb rfl
  have kp : ∀ b ∈ o6 ++ (ot ++ oB), H' b = H b := fun b hb => by
    obtain ⟨x, e, _⟩ := thr b hb
    rw [e, g3 b x (out b hb) e]
  obtain ⟨o7, q1, q2⟩ := f4 g1 (fun b hb => kp b (by simp [hb])) g5
  have e3' := e3.mono g1 _ (fun b hb => kp b (by simp [hb]))
  have hl : i < env.length := (List.getElem?_eq_some_iff.mp he).1
  obtain ⟨o8, h1, h2⟩ := e3'.put (i := i) (by simpa using hl) (fun x z => by rw [List.getElem?_set_self hl] at z; cases z) q1
  rw [List.set_set, set_back hv] at h1
  have t2 := k2.mono g1 _ (fun b hb => kp b (by simp [hb]))
  have pm8 : o8.Perm (p2 ++ (o6 ++ oB)) := h2.trans (by rw [← List.append_assoc]; exact List.Perm.append_right _ q2)
  have pmN : ((p1 ++ ot) ++ o8).Perm ((p1 ++ p2) ++ (o6 ++ (ot ++ oB))) := (List.Perm.append_left _ pm8).trans (List.perm_iff_count.mpr fun x => by simp only [List.count_append]; omega)
  refine ⟨G', p1 ++ ot, o8, ⟨r, vs, p1, ot, rfl, g4, t2, rfl⟩, h1, pmN.nodup_iff.mpr ?_, fun a ha => ?_, s.g0.trans g1, g2, fun a x e => ?_, fun a x e => ?_, fun q hq => by cases hq⟩
  · refine List.nodup_append.mpr ⟨g6, (List.nodup_append.mp nd).2.1, fun a ha b hb e => ?_⟩
    subst e
    rcases (g7 a ha).2 with c | c
    · exact out a hb c
    · obtain ⟨x, ex, _⟩ := thr a hb
      rw [c] at ex; cases ex
  · rcases List.mem_append.mp (pmN.mem_iff.mp ha) with ha | ha
    · obtain ⟨c1, c2⟩ := g7 a ha
      refine ⟨c1, ?_⟩
      rcases c2 with c2 | c2
      · exact (fr a (List.mem_append_left _ c2)).2
      · exact Same.none s.h0 c2
    · refine ⟨?_, (fr a (List.mem_append_right _ ha)).2⟩
      cases q : G' a with
      | none => rfl
      | some x =>
        obtain ⟨x', ex, ne⟩ := thr a ha
        rcases g8 a x q with z | z | z | ⟨xs, z⟩
        · exact absurd (fr a (List.mem_append_right _ ha)).1 z
        · rw [z] at ex; cases ex
        · exact absurd z (out a ha)
        · have := g2 a x q
          rw [g3 a x' (out a ha) ex] at this
          cases this
          exact absurd z (ne xs)
  · have na : a ∉ o1 := fun h => by rw [(fr a (List.mem_append_left _ h)).2] at e; cases e
    exact g3 a x na (s.h0 a x e)
  · rcases g8 a x e with z | z | z | z
    · cases q : G a with
      | none => exact absurd q z
      | some y =>
        have := g1 a y q
        rw [e] at this; cases this
        exact s.nw a x q
    · exact .inr (.inl (Same.none s.h0 z))
    · exact .inr (.inl (fr a (List.mem_append_left _ z)).2)
    · exact .inr (.inr z)
/-- f(p, ..), p a place -/
def eCallM (φ : T → List D → Option (T × T)) (i : Nat) (fo : PF) (fr : AF) : EF := fun env => (fo env).bind fun r => (fr r.2).bind fun s => (allP s.1).bind fun ds => (atP s.2 i r.1).bind fun t0 => (φ t0 ds).map fun z => (z.1, putP s.2 i r.1 z.2)
/-- p.m(..) -/
def eMethM (n m : Str) (φ : T → List D → Option (T × T)) (i : Nat) (fo : PF) (fr : AF) : EF := fun env => (fo env).bind fun r => (atP r.2 i r.1).bind fun t => match unb t with
  | .obj c fs => if c = n ∧ (valT fs m).isNone = true then eCallM φ i (fun _ => some (r.1, r.2)) fr r.2 else none
  | _ => none
section
variable {X : Cx} {k : Nat} {f C : Addr} {fd : FuncData} {ps : List Str} {n : Nat} {φ : T → List D → Option (T × T)} {x m : Str} {p pos apos : Pos} {e o : Expr} {es : List Expr} {to : TE} {fo : PF} {i : Nat} {ta : TA} {fa : AF}
theorem ev_lend (hφ : ∀ t ds r, φ t ds = some r → ds.length = n) (ha : DA X es ta fa) {G0 H0 H : Hp} {ts : List T} {vs : List V} {env : Env} {σ : St} {P : List Stp} {v w : V} (S : OkS X.K G0 H0 [] H ts vs env σ) (hv : σ[i]? = some (some v)) (hc : Ch H P v w) {t : T} {env' : Env}
    (g : (fa env).bind (fun s => (allP s.1).bind fun ds => (atP s.2 i P).bind fun t0 => (φ t0 ds).map fun z => (z.1, putP s.2 i P z.2)) = some (t, env')) {Q : VK} (q : ∀ v H', OkS X.K G0 H0 [] H' (t :: ts) (v :: vs) env' σ → Q v H') :
    ta σ H fun ws H2 => spM n φ X.K (w :: ws) H2 Q E0 := by
  obtain ⟨⟨us, e1⟩, g1, g2⟩ := obind g
  obtain ⟨ds, g3, g4⟩ := obind g2
  obtain ⟨t0, g5, g6⟩ := obind g4
  obtain ⟨⟨t1, t2⟩, g7, g8⟩ := omap g6
  cases g8
  have eu : us = ds.map T.p := allP_eq g3
  subst eu
  refine ha.ok _ _ _ _ _ _ _ _ _ _ S g1 _ fun ws H2 s2 hl S2 => ?_
  obtain ⟨tt, k3, k4⟩ := atP_eq g5
  obtain ⟨G, o1, h1, h2, h3, h4, h5, h6⟩ := S2.lend (by simpa using hl) k3 k4 hv (hc.same s2)
  refine ⟨t0, ds, w, ws, t1, t2, G, o1, rfl, hφ _ _ _ g7, g7, h1, h2, h3, h4, h5, fun r G' H' p1 p2 c1 c2 c3 c4 c5 c6 c7 c8 => ?_⟩
  have S3 := h6 r G' H' p1 p2 t1 t2 c1 c2 c3 c4 c5 c6 c7 c8
  rw [← putP_eq k3] at S3
  exact q r H' S3
theorem dx_callM (hφ : ∀ t ds r, φ t ds = some r → ds.length = n) (F : FnOk X.prog X.w X.K X.mg X.base CX0 k f fd ps (spM n φ X.K)) (hr : Room k X.A) (hg : Gl X x) (hm : X.mg x = some (.ref f)) (hk : PySem.W.keepIn X.K (.ref f) = true) (hb : Binds X.K fd ps [])
    (ho : DP X o to i fo) (ha : DA X es ta fa) (hdb : (x == ("__debug__" : Str)) = false := by decide) (he : starEach (o :: es) X.env = (false, eval o X.env) :: starEach es X.env := by rfl) (hpl : (backTo pos (starEach es X.env)).any (·.1) = false := by rfl) :
    DX X (.Call (.Name x p) (o :: es) [] pos) (tCall (spM n φ X.K) [] E0 (tCons to ta)) (eCallM φ i fo fa) := by
  refine ⟨pe_call F hr hg hm hk hb .nil pass0 (pa_cons ho.pe ha.pa he) hdb he hpl, ?_⟩
  intro G0 H0 H ts vs env σ t env' S g Q q
  obtain ⟨⟨P, e1⟩, g1, g2⟩ := obind g
  refine ho.ok _ _ _ _ _ _ _ _ _ _ S g1 _ fun v w H1 s1 S1 hv hc => ?_
  have := ev_lend hφ ha S1 hv hc g2 q
  show ta σ H1 fun ws H2 => spM n φ X.K ((w :: ws) ++ []) H2 Q E0
  simpa using this
theorem ev_meth {to : TE} (hφ : ∀ t ds r, φ t ds = some r → ds.length = n) {nm : Str} (hn : ClsN X.K nm C) (ho : EvP X.K to i fo) (ha : DA X es ta fa) : EvX X.K (tMeth C m (spM n φ X.K) [] E0 to ta) (eMethM nm m φ i fo fa) := by
  intro G0 H0 H ts vs env σ t env' S g Q q
  obtain ⟨⟨P, e1⟩, g1, g2⟩ := obind g
  obtain ⟨u, g3, g4⟩ := obind g2
  dsimp only at g4
  split at g4
  · rename_i c fs hu
    split at g4
    · rename_i hcn
      obtain ⟨hcn, hno⟩ := hcn
      subst hcn
      refine ho _ _ _ _ _ _ _ _ _ _ S g1 _ fun v w H1 s1 S1 hv hc => ?_
      obtain ⟨tt, k1, k2⟩ := atP_eq g3
      obtain ⟨G, o1, r, sG⟩ := S1.at' k1 k2 hv hc
      have r := r.unb
      rw [hu] at r
      obtain ⟨a, C', dx, ws, o', h1, h0, h2, h3, h4⟩ := r
      have eC : C' = C := by
        have := (show PySem.W.nsIn X.K mainGlobals c = some (some (.ref C')) from h0).symm.trans hn
        cases this; rfl
      subst eC
      refine ⟨a, dx, ws, h1, h2, h3.noVal m (Option.isNone_iff_eq_none.mp hno), ?_⟩
      have := ev_lend hφ ha S1 hv hc (show (fa e1).bind _ = _ from g4) q
      simpa using this
    · cases g4
  · cases g4
theorem dx_meth {nm : Str} {pl : Sem Bool} (hφ : ∀ t ds r, φ t ds = some r → ds.length = n) (hn : ClsN X.K nm C) (c : Cls X.K C) (hm : Meth X.K C m f) (F : FnOk X.prog X.w X.K X.mg X.base CX0 k f fd ps (spM n φ X.K)) (hr : Room k X.A) (hb : Binds X.K fd ps [])
    (ho : DP X o to i fo) (ha : DA X (e :: es) ta fa) (hst : starEach (e :: es) X.env = (false, eval e X.env) :: starEach es X.env := by rfl) (hpl : (backTo pos (starEach es X.env)).any (·.1) = false := by rfl)
    (ht : eval (.Call (.Attribute o m apos) (e :: es) [] pos) X.env = (do
      let ov ← eval o X.env
      standAt apos.atName
      let (f, first) ← holding [ov] (getMethod ov m pl)
      callWith pos f first (backTo pos (starEach (e :: es) X.env)) (backToKw pos (keywordEach [] X.env))) := by rfl) :
    DX X (.Call (.Attribute o m apos) (e :: es) [] pos) (tMeth C m (spM n φ X.K) [] E0 to ta) (eMethM nm m φ i fo fa) := ⟨pe_meth ho.pe c hm F hr hb .nil pass0 ha.pa hst hpl ht, ev_meth hφ hn ho.ok ha⟩
theorem dx_meth0 {nm : Str} {pl : Sem Bool} (hφ : ∀ t ds r, φ t ds = some r → ds.length = n) (hn : ClsN X.K nm C) (c : Cls X.K C) (hm : Meth X.K C m f) (F : FnOk X.prog X.w X.K X.mg X.base CX0 k f fd ps (spM n φ X.K)) (hr : Room k X.A) (hb : Binds X.K fd ps [])
    (ho : DP X o to i fo) (ht : eval (.Call (.Attribute o m apos) [] [] pos) X.env = (do
      let ov ← eval o X.env
      standAt apos.atName
      let (f, first) ← holding [ov] (getMethod ov m pl)
      callWith pos f first (backTo pos (starEach [] X.env)) (backToKw pos (keywordEach [] X.env))) := by rfl) :
    DX X (.Call (.Attribute o m apos) [] [] pos) (tMeth C m (spM n φ X.K) [] E0 to tNil) (eMethM nm m φ i fo aN) := ⟨pe_meth0 ho.pe c hm F hr hb .nil pass0 ht, ev_meth hφ hn ho.ok da_nil⟩
/-- C(..) -/
def eMake (nm : Str) (φ : T → List D → Option (T × T)) (fr : AF) : EF := fun env => (fr env).bind fun s => (allP s.1).bind fun ds => (φ (.obj nm []) ds).bind fun z => match z.1 with
  | .p .non => some (z.2, s.2)
  | _ => none
theorem ev_make (hφ : ∀ t ds r, φ t ds = some r → ds.length = n) {nm : Str} (hn : ClsN X.K nm C) (ha : DA X es ta fa) : EvX X.K (tMake C (spM n φ X.K) [] E0 ta) (eMake nm φ fa) := by
  intro G0 H0 H ts vs env σ t env' S g Q q
  obtain ⟨⟨us, e1⟩, g1, g2⟩ := obind g
  obtain ⟨ds, g3, g4⟩ := obind g2
  obtain ⟨⟨t1, t2⟩, g7, g8⟩ := obind g4
  have hz : t1 = .p .non ∧ t2 = t ∧ e1 = env' := by
    cases t1 with
    | p d => cases d with
      | non => cases g8; exact ⟨rfl, rfl, rfl⟩
      | _ => cases g8
    | _ => cases g8
  obtain ⟨rfl, rfl, rfl⟩ := hz
  · clear g8
    have eu : us = ds.map T.p := allP_eq g3
    subst eu
    refine ha.ok _ _ _ _ _ _ _ _ _ _ S g1 _ fun ws H2 s2 hl S2 => ?_
    intro x dx hx hdx hne
    obtain ⟨G, ot, oe, s⟩ := S2
    obtain ⟨o1, o2, k1, k2, k3⟩ := s.tmp.split (us := ds.map T.p) hl
    obtain ⟨kd, k4⟩ := rpDs_of k1
    subst k4
    have k3 : ot = o2 := k3
    subst k3
    have gx : G x = none := Same.none s.gh hx
    have gdx : G dx = none := Same.none s.gh hdx
    have sH : Same H2 (upd (upd H2 dx (.own x)) x (.ins C dx [])) := fun b u e => by
      rw [upd_ne (fun z => by rw [z, hx] at e; cases e), upd_ne (fun z => by rw [z, hdx] at e; cases e)]; exact e
    have thr : ∀ b ∈ ot ++ oe, ∃ u, H2 b = some u ∧ ∀ xs, u ≠ .tup xs := fun b hb => by
      rcases List.mem_append.mp hb with h | h
      · exact k2.there _ b h
      · exact s.env.there _ b h
    refine ⟨.obj nm [], ds, .ref x, ws, .p .non, t2, G, [x], by simp, hφ _ _ _ g7, g7, s.gh.trans sH, ⟨x, C, dx, [], [], rfl, hn, upd_same, ⟨rfl, rfl⟩, rfl⟩, by simp, fun a ha => by rw [List.mem_singleton.mp ha]; exact gx, by simpa using kd, fun r G' H' p1 p2 c1 c2 c3 c4 c5 c6 c7 c8 => ?_⟩
    have er : r = .non := c4.1
    refine ⟨er, ?_⟩
    have ep : p1 = [] := c4.2
    subst ep
    have kp : ∀ b ∈ ot ++ oe, H' b = H2 b := fun b hb => by
      obtain ⟨u, e, _⟩ := thr b hb
      have : b ∉ [x] := fun z => by rw [List.mem_singleton.mp z, hx] at e; cases e
      rw [e, c3 b u this (sH b u e)]
    have nin : ∀ a ∈ ot ++ oe, a ∉ p2 := fun a ha h => by
      obtain ⟨u, e, _⟩ := thr a ha
      rcases (c7 a (by simpa using h)).2 with z | z
      · rw [List.mem_singleton.mp z, hx] at e; cases e
      · rw [sH a u e] at z; cases z
    refine q (.ref x) H' ⟨G', p2 ++ ot, oe, ⟨.ref x, vs, p2, ot, rfl, c5, k2.mono c1 _ (fun b hb => kp b (List.mem_append_left _ hb)), rfl⟩, s.env.mono c1 _ (fun b hb => kp b (List.mem_append_right _ hb)), ?_, fun a ha => ?_, s.g0.trans c1, c2, fun a u e => ?_, fun a u e => ?_, fun q hq => by cases hq⟩
    · rw [List.append_assoc]
      exact List.nodup_append.mpr ⟨by simpa using c6, s.nd, fun a ha b hb e => nin b hb (e ▸ ha)⟩
    · rw [List.append_assoc] at ha
      rcases List.mem_append.mp ha with ha | ha
      · obtain ⟨d1, d2⟩ := c7 a (by simpa using ha)
        refine ⟨d1, ?_⟩
        rcases d2 with z | z
        · rw [List.mem_singleton.mp z]; exact Same.none s.h0 hx
        · exact Same.none s.h0 (Same.none sH z)
      · refine ⟨?_, (s.fr a ha).2⟩
        cases qq : G' a with
        | none => rfl
        | some u =>
          obtain ⟨u', e, ne⟩ := thr a ha
          rcases c8 a u qq with z | z | z | ⟨xs, z⟩
          · exact absurd (s.fr a ha).1 z
          · rw [sH a u' e] at z; cases z
          · rw [List.mem_singleton.mp z, hx] at e; cases e
          · have h' := c2 a u qq
            rw [kp a ha, e] at h'
            cases h'
            exact absurd z (ne xs)
    · have h2 := s.h0 a u e
      have : a ∉ [x] := fun z => by rw [List.mem_singleton.mp z, hx] at h2; cases h2
      exact c3 a u this (sH a u h2)
    · rcases c8 a u e with z | z | z | z
      · cases qq : G a with
        | none => exact absurd qq z
        | some y =>
          have := c1 a y qq
          rw [e] at this; cases this
          exact s.nw a u qq
      · exact .inr (.inl (Same.none s.h0 (Same.none sH z)))
      · rw [List.mem_singleton.mp z]; exact .inr (.inl (Same.none s.h0 hx))
      · exact .inr (.inr z)
theorem dx_make (hφ : ∀ t ds r, φ t ds = some r → ds.length = n) {nm : Str} (hn : ClsN X.K nm C) (M : Mk X.K C f) (F : FnOk X.prog X.w X.K X.mg X.base CX0 k f fd ps (spM n φ X.K)) (hr : Room (k + 1) X.A) (hg : Gl X x) (hm : X.mg x = some (.ref C)) (hb : Binds X.K fd ps [])
    (ha : DA X (e :: es) ta fa) (hdb : (x == ("__debug__" : Str)) = false := by decide) (he : starEach (e :: es) X.env = (false, eval e X.env) :: starEach es X.env := by rfl) (hpl : (backTo pos (starEach es X.env)).any (·.1) = false := by rfl) :
    DX X (.Call (.Name x p) (e :: es) [] pos) (tMake C (spM n φ X.K) [] E0 ta) (eMake nm φ fa) := ⟨pe_make M F hr hg hm hb .nil pass0 ha.pa hdb he hpl, ev_make hφ hn ha⟩
theorem dx_make0 (hφ : ∀ t ds r, φ t ds = some r → ds.length = n) {nm : Str} (hn : ClsN X.K nm C) (M : Mk X.K C f) (F : FnOk X.prog X.w X.K X.mg X.base CX0 k f fd ps (spM n φ X.K)) (hr : Room (k + 1) X.A) (hg : Gl X x) (hm : X.mg x = some (.ref C)) (hb : Binds X.K fd ps [])
    (hdb : (x == ("__debug__" : Str)) = false := by decide) : DX X (.Call (.Name x p) [] [] pos) (tMake C (spM n φ X.K) [] E0 tNil) (eMake nm φ aN) := ⟨pe_make0 M F hr hg hm hb .nil pass0 hdb, ev_make hφ hn da_nil⟩
end
end DL

set_option Elab.async false
set_option linter.all false
set_option maxRecDepth 100000
set_option maxHeartbeats 1000000
/-! Comprehensions whose items change what stands; op= at places. -/
namespace DL
open PySem PySem.Spec PyProof.Rows L2
theorem ev_compX {K : PySem.W.Frag} {wi : TI} {fi : IF} {g : TG} {G : GF} {sl own : List Nat} {tt : TT} {ct : CF} {te : TE} {fe : EF} (hI : EvI K wi fi) (hg : EvG K g G sl) (hsl : ∀ j ∈ sl, j ∈ own) (ht : EvC K tt ct) (he : EvX K te fe) : EvX K (tLc wi g tt te own) (eComp own fi G ct fe) := by
  intro G0 H0 H ts vs env σ t env' S e Q q
  obtain ⟨⟨ds, e1⟩, g1, g2⟩ := obind e
  by_cases hlen : ds.length ≤ 1000000
  · rw [if_pos hlen] at g2
    obtain ⟨⟨us, e2⟩, g3, g4⟩ := omap g2
    cases g4
    refine hI _ _ _ _ _ _ _ _ _ _ S g1 _ fun J H1 G1 s1 gst I S1 => ?_
    intro D hD
    have S3 : OkS K G1 H0 [] (upd H1 D (.lst [])) (.lst [] :: ts) (.ref D :: vs) (wipeE e1 own) (wipe σ own) := (OkS.newL (us := []) (ws := []) rfl S1 hD).toWipe own
    refine ⟨fun i m H => m = ds.length - i ∧ i ≤ ds.length ∧ ∃ env acc rest, OkS K G1 H0 [] H (.lst acc :: ts) (.ref D :: vs) env (wipe σ own) ∧ compD own G ct fe (ds.drop i) env = some (rest, e2) ∧ us = acc ++ rest ∧ acc.length ≤ i ∧ (∀ (j : Nat) (t : T), env[j]? = some (some t) → j ∉ own),
      ⟨ds.length, by simp, Nat.zero_le _, wipeE e1 own, [], us, S3, by simpa using g3, rfl, Nat.le_refl _, fun j t e => (wipeE_some e).1⟩, ?_⟩
    rintro i m Hi ⟨rfl, hle, envi, acc, rest, Si, hc, hu, ha, hw0⟩
    by_cases hlt : i < ds.length
    · refine .inr ⟨I.go i Hi Si.same hlt, fun H' => i + 1 ≤ ds.length ∧ ∃ env acc rest, OkS K G1 H0 [] H' (.lst acc :: ts) (.ref D :: vs) env (wipe σ own) ∧ compD own G ct fe (ds.drop (i + 1)) env = some (rest, e2) ∧ us = acc ++ rest ∧ acc.length ≤ i + 1 ∧ (∀ (j : Nat) (t : T), env[j]? = some (some t) → j ∉ own), fun H' ⟨h1, h2⟩ => ⟨ds.length - (i + 1), by omega, rfl, h1, h2⟩, fun x H3 y => ?_⟩
      obtain ⟨s3, S4⟩ := I.item Si (List.getElem?_eq_getElem hlt) y
      rw [List.drop_eq_getElem_cons hlt] at hc
      obtain ⟨e3, l1, l2⟩ := obind hc
      obtain ⟨⟨b, e4⟩, l3, l4⟩ := obind l2
      refine hg _ _ _ _ _ _ _ _ _ _ _ S4 l1 _ fun σ2 S5 dif => ?_
      have hw : wipe σ2 own = wipe σ own := by
        refine wipe_eq (dif.1.trans (wipe_length _ _)) fun j hj => (dif.2 j fun z => hj (hsl j z)).trans (wipe_out' hj)
      have again : ∀ {H4 : Hp} {e5 : Env} {acc' : List T}, OkS K G1 H0 [] H4 (.lst acc' :: ts) (.ref D :: vs) e5 σ2 → OkS K G1 H0 [] H4 (.lst acc' :: ts) (.ref D :: vs) (wipeE e5 own) (wipe σ own) := fun S => by
        rw [← hw]; exact S.toWipe own
      refine ⟨hw, ?_⟩
      refine ht _ _ _ _ _ _ _ _ _ _ S5 l3 _ fun H4 s4 S6 => ?_
      cases b with
      | false =>
        rw [if_neg Bool.false_ne_true]
        exact ⟨hlt, _, acc, rest, again S6, l4, hu, by omega, fun j t e => (wipeE_some e).1⟩
      | true =>
        rw [if_pos rfl]
        obtain ⟨⟨u, e5⟩, l5, l6⟩ := obind (show (fe e4).bind (fun s => (compD own G ct fe (ds.drop (i + 1)) (wipeE s.2 own)).map fun z => (s.1 :: z.1, z.2)) = some (rest, e2) from l4)
        obtain ⟨⟨zs, e6⟩, l7, l8⟩ := omap l6
        cases l8
        refine he _ _ _ _ _ _ _ _ _ S6 l5 _ fun y H5 S7 => ?_
        have S8 : OkS K G1 H0 [] H5 (.lst acc :: ([u] ++ ts)) (.ref D :: ([y] ++ vs)) e5 σ2 := OkS.mid (us := [u]) (ws := [y]) (x := .lst acc) (y := .ref D) rfl S7
        obtain ⟨a, xs, k1, k2, k3, k4⟩ := OkS.wrL (es := [u]) (ws := [y]) S8 rfl
        cases k1
        exact ⟨xs, k2, by rw [k3, sizeLine_eq]; omega, hlt, _, acc ++ [u], zs, again (k4 (acc ++ [u]) (xs ++ [y]) fun G o1 o2 r1 r2 => ⟨o1 ++ o2, [], r1.append r2, by simp⟩), l7, by rw [hu]; simp, by simp; omega, fun j t e => (wipeE_some e).1⟩
    · have hi' : i = ds.length := by omega
      subst hi'
      rw [List.drop_length] at hc
      cases hc
      rw [List.append_nil] at hu
      subst hu
      have Sf : OkS K G1 H0 [] Hi (.lst us :: ts) (.ref D :: vs) e2 σ := Si.slots (by rw [wipe_length]) fun j t e => (wipe_out' (hw0 j t e)).symm
      exact .inl ⟨I.stop Hi Si.same, q _ Hi (Sf.back gst)⟩
  · rw [if_neg hlen] at g2; cases g2
def teX (K : PySem.W.Frag) (f : EF) : TE := fun σ H Q => ∃ (G0 H0 : Hp) (ts : List T) (vs : List V) (env : Env) (t : T) (env' : Env), OkS K G0 H0 [] H ts vs env σ ∧ f env = some (t, env') ∧ ∀ v H', OkS K G0 H0 [] H' (t :: ts) (v :: vs) env' σ → Q v H'
theorem ev_teX {K : PySem.W.Frag} {f : EF} : EvX K (teX K f) f := fun G0 H0 H ts vs env σ t env' S e Q q => ⟨G0, H0, ts, vs, env, t, env', S, e, q⟩
theorem pe_X {X : Cx} {e : Expr} {te : TE} {f : EF} (h : DX X e te f) : PE X e (teX X.K f) := ⟨fun pins s σ H Q I ⟨_, _, _, _, _, _, _, S, g, q⟩ => h.pe.run pins s σ H Q I (h.ok _ _ _ _ _ _ _ _ _ S g Q q)⟩
section
variable {X : Cx} {elt tg iter : Expr} {ifs : List Expr} {scope : Scope} {own : List (Str × Nat)} {pos spos py : Pos} {wi : TI} {fi : IF} {g : Shared → Hp → Addr → List (Str × Addr) → List Addr → TG} {G : GF} {sl : List Nat} {tt : Shared → Hp → Addr → List (Str × Addr) → List Addr → TT} {ct : CF} {te : Shared → Hp → Addr → List (Str × Addr) → List Addr → TE} {fe : EF} {i : Nat} {y : Str}
theorem dx_comp (hc : X.calm = true) (hN : X.N.Nodup) (hi : DI X tg iter wi fi) (ok : BlkOk X.N X.env.scope scope own)
    (hg : ∀ (s : Shared) (H : Hp) (C : Addr) (cl : List (Str × Addr)) (fp : List Addr), DG (X.blk s H scope (compEnvC scope cl C X.env) fp) tg (g s H C cl fp) G sl) (ht : ∀ (s : Shared) (H : Hp) (C : Addr) (cl : List (Str × Addr)) (fp : List Addr), DTs (X.blk s H scope (compEnvC scope cl C X.env) fp) ifs (tt s H C cl fp) ct)
    (he : ∀ (s : Shared) (H : Hp) (C : Addr) (cl : List (Str × Addr)) (fp : List Addr), DX (X.blk s H scope (compEnvC scope cl C X.env) fp) elt (te s H C cl fp) fe) (hsl : ∀ j ∈ sl, j ∈ own.map (·.2) := by decide) (hs : ∀ x, foldedSetIterable iter X.env x = pure x := by intro _; rfl) :
    DX X (.ListComp elt [⟨tg, iter, ifs, 0⟩] scope pos) (tLc wi (tgW X.K G sl) (ttW X.K ct) (teX X.K fe) (own.map (·.2))) (eComp (own.map (·.2)) fi G ct fe) :=
  ⟨pe_lc hc hN hi.pi ok (fun s H C cl fp => pg_W (hg s H C cl fp)) (fun s H C cl fp => pts_W (ht s H C cl fp)) (fun s H C cl fp => pe_X (he s H C cl fp)) hs,
    ev_compX hi.ok ev_tgW hsl ev_ttW ev_teX⟩
theorem evs_setX {K : PySem.W.Frag} {i : Nat} {te : TE} {f : EF} (h : EvX K te f) : EvS K (tAsg te (gName i)) (sSet i f) [i] := by
  intro G0 H0 H ts vs env σ fl env' S g D q
  obtain ⟨⟨x, e1⟩, g1, g2⟩ := obind g
  by_cases hi : i < e1.length
  · rw [if_pos hi] at g2
    cases g2
    exact h _ _ _ _ _ _ _ _ _ S g1 _ fun v H' S' => q H' _ (S'.put hi) .set
  · rw [if_neg hi] at g2; cases g2
theorem ds_setLcX (hc : X.calm = true) (hN : X.N.Nodup) (hy : X.N[i]? = some y) (hyl : X.env.scope.names.lookup y = some .local)
    (hsw : swapsWith (.ListComp elt [⟨tg, iter, ifs, 0⟩] scope pos) (some (.Name y py)) spos.line X.env = pure true) (hi : DI X tg iter wi fi) (ok : BlkOk X.N X.env.scope scope own)
    (hg : ∀ (s : Shared) (H : Hp) (C : Addr) (cl : List (Str × Addr)) (fp : List Addr), DG (X.blk s H scope (compEnvC scope cl C X.env) fp) tg (g s H C cl fp) G sl) (ht : ∀ (s : Shared) (H : Hp) (C : Addr) (cl : List (Str × Addr)) (fp : List Addr), DTs (X.blk s H scope (compEnvC scope cl C X.env) fp) ifs (tt s H C cl fp) ct)
    (he : ∀ (s : Shared) (H : Hp) (C : Addr) (cl : List (Str × Addr)) (fp : List Addr), DX (X.blk s H scope (compEnvC scope cl C X.env) fp) elt (te s H C cl fp) fe) (hsl : ∀ j ∈ sl, j ∈ own.map (·.2) := by decide) (hs : ∀ x, foldedSetIterable iter X.env x = pure x := by intro _; rfl) :
    DS X (.Assign [.Name y py] (.ListComp elt [⟨tg, iter, ifs, 0⟩] scope pos) spos) (tAsg (tLc wi (tgW X.K G sl) (ttW X.K ct) (teX X.K fe) (own.map (·.2))) (gName i)) (sSet i (eComp (own.map (·.2)) fi G ct fe)) [i] :=
  ⟨ps_setLc hc hN hy hyl hsw hi.pi ok (fun s H C cl fp => pg_W (hg s H C cl fp)) (fun s H C cl fp => pts_W (ht s H C cl fp)) (fun s H C cl fp => pe_X (he s H C cl fp)) hs,
    evs_setX (ev_compX hi.ok ev_tgW hsl ev_ttW ev_teX)⟩
end
/-! ### op= at places -/
theorem pip_in {X : Cx} {op : Operator} {t : TIp} (h : PIp X op t) : InOp X op t := fun pins s σ H x y u v Q I rx ry g => h pins s σ H x y u v Q I rx ry g
def isO : T → Bool
  | .obj _ _ => true
  | _ => false
/-- p.f op= e of ints -/
def sAugF (n a : Str) (hh : Int → Int → Int) (i : Nat) (fo : PF) (f : EF) : SF := fun env => (fo env).bind fun r => (atP r.2 i r.1).bind fun t0 => (valF n a (unb t0)).bind fun u => (asI u).bind fun x0 => (f r.2).bind fun y => (asI y.1).bind fun y0 => (atP y.2 i r.1).bind fun t1 => match unb t1 with
  | .obj m fs => if m = n ∧ fs.length < 900 ∧ isO (unb t0) = true then some (.nx, putP y.2 i r.1 (reb t1 (.obj m (putFT fs a (.p (.int (hh x0 y0))))))) else none
  | _ => none
/-- p[k] op= e of ints, p a dict -/
def sAugK (hh : Int → Int → Int) (i : Nat) (fo : PF) (fk f : EF) : SF := fun env => (fo env).bind fun r => (fk r.2).bind fun s => (keyT s.1).bind fun k => (atP s.2 i r.1).bind fun t0 => match unb t0 with
  | .dic kvs0 => (valT kvs0 k).bind fun u => (asI u).bind fun x0 => (f s.2).bind fun y => (asI y.1).bind fun y0 => (atP y.2 i r.1).bind fun t1 => match unb t1 with
    | .dic kvs => if kvs.length < 16000000 then some (.nx, putP y.2 i r.1 (reb t1 (.dic (putT kvs k (.p (.int (hh x0 y0))))))) else none
    | _ => none
  | _ => none
section
variable {X : Cx} {e o k : Expr} {te to tk : TE} {f fk : EF} {fo : PF} {i : Nat} {pos ipos tpos : Pos}
theorem ds_augK {op : Operator} {hh : Int → Int → Int} (hu : X.A.units + 1 < cLine) (hop : PIp X op (ipI hh)) (ho : DP X o to i fo) (hk : DT X k tk fk) (h : DT X e te f)
    (ha : ∀ ov iv new, augStore k ov iv new = (do holding [new, ov, iv] (setItem ov iv new); release [new, ov, iv] []; pure .next) := by intros; rfl) : DS X (.AugAssign (.Subscript o k tpos) op e pos) (sDAug to tk te (ipI hh)) (sAugK hh i fo fk f) [] := by
  refine ⟨ps_daug hu ho.pe hk.pe h.pe (pip_in hop) ha, ?_⟩
  intro G0 H0 H ts vs env σ fl env' S g D q
  obtain ⟨⟨P, e1⟩, g1, g2⟩ := obind g
  obtain ⟨⟨z, e2⟩, g3, g4⟩ := obind g2
  obtain ⟨kk, g5, g6⟩ := obind g4
  obtain ⟨t0, g7, g8⟩ := obind g6
  dsimp only at g8
  split at g8
  · rename_i kvs0 hu0
    obtain ⟨u, g9, g10⟩ := obind g8
    obtain ⟨x0, g11, g12⟩ := obind g10
    obtain ⟨⟨y, e3⟩, g13, g14⟩ := obind g12
    obtain ⟨y0, g15, g16⟩ := obind g14
    obtain ⟨t1, g17, g18⟩ := obind g16
    dsimp only at g18
    split at g18
    · rename_i kvs hun
      split at g18
      · rename_i hl
        cases g18
        have eu := asI_eq g11
        subst eu
        have ey : y = .p (.int y0) := asI_eq g15
        subst ey
        cases z with
        | p kd =>
          refine ho.ok _ _ _ _ _ _ _ _ _ _ S g1 _ fun v w H1 s1 S1 hv hc => ?_
          refine hk.ok _ _ _ _ _ _ _ _ _ _ S1 g3 _ fun kx H2 s2 S2 => ?_
          have ek : kx = L2.kV kk := keyD_rp (show keyD kd = some kk from g5) S2.top
          have hc2 := hc.same s2
          obtain ⟨tt0, k1, k2⟩ := atP_eq g7
          obtain ⟨G, o1, r, sG⟩ := S2.pop.at' k1 k2 hv hc2
          have r := r.unb
          rw [hu0] at r
          obtain ⟨a, ws0, o', h1, h2, h3, h4⟩ := r
          subst h1
          obtain ⟨w0, p1, p2, c1, c2, _⟩ := h3.foc g9
          have ew0 : w0 = .int x0 := c2.1
          subst ew0
          refine ⟨a, .int x0, rfl, by rw [ek, ← c1]; exact DGet.k h2, ?_⟩
          refine h.ok _ _ _ _ _ _ _ _ _ _ S2.pop g13 _ fun y2 H3 s3 S3 => ?_
          have ey2 : y2 = .int y0 := S3.top
          subst ey2
          refine ⟨x0, y0, rfl, rfl, ?_⟩
          obtain ⟨tt, k3, k4⟩ := atP_eq g17
          obtain ⟨G2, p1', p2', r1, r2, nd, sG2, fr, wr⟩ := OkS.wr (es := []) (ws := []) S3.pop rfl k3 k4 hv (hc2.same s3)
          have ru := r1.unb
          rw [hun] at ru
          obtain ⟨a', xs, o2, h1', h2', h3', h4'⟩ := ru
          cases h1'
          subst h4'
          have e2' : p2' = [] := r2.2
          subst e2'
          have na : a ∉ o2 := fun hm => (List.nodup_cons.mp (show (a :: (o2 ++ [])).Nodup from nd)).1 (by simp [hm])
          refine ⟨_, by rw [ek]; exact DPut.k h2' (by rw [h3'.len, sizeLine_eq]; omega), ?_⟩
          have m1 := h3'.mono (Same.refl G2) (H' := upd H3 a (.dK (putK xs kk (.int (hh x0 y0))))) _ (wN na)
          obtain ⟨o5, rest, f1, f2⟩ := m1.put (t := .p (.int (hh x0 y0))) (v := .int (hh x0 y0)) (o' := []) (k := kk) ⟨rfl, rfl⟩ rfl
          have S4 := wr a (.dK (putK xs kk (.int (hh x0 y0)))) (reb t1 (.dic (putT kvs kk (.p (.int (hh x0 y0)))))) [] [] (a :: o5) [] rest (by simp) (r1.reb ⟨a, _, _, rfl, upd_same, f1, rfl⟩) ⟨rfl, rfl⟩ (by
            simp only [List.cons_append, List.append_nil] at f2 ⊢
            exact List.Perm.cons a f2)
          rw [← putP_eq k3] at S4
          exact q _ _ S4 .rfl'
        | _ => cases g5
      · cases g18
    · cases g18
  · cases g8
theorem ds_augF {op : Operator} {n a : Str} {hh : Int → Int → Int} (hA : Att X.K n a) (hop : PIp X op (ipI hh)) (ho : DP X o to i fo) (h : DT X e te f) : DS X (.AugAssign (.Attribute o a tpos) op e pos) (sFldAug X.K to te (ipI hh) a) (sAugF n a hh i fo f) [] := by
  refine ⟨ps_fldaug ho.pe h.pe (pip_in hop), ?_⟩
  intro G0 H0 H ts vs env σ fl env' S g D q
  obtain ⟨⟨P, e1⟩, g1, g2⟩ := obind g
  obtain ⟨t0, g7, g8⟩ := obind g2
  obtain ⟨u, g9, g10⟩ := obind g8
  obtain ⟨x0, g11, g12⟩ := obind g10
  obtain ⟨⟨y, e3⟩, g13, g14⟩ := obind g12
  obtain ⟨y0, g15, g16⟩ := obind g14
  obtain ⟨t1, g17, g18⟩ := obind g16
  dsimp only at g18
  split at g18
  · rename_i m fs hun
    split at g18
    · rename_i hl
      obtain ⟨hm, hl, hob⟩ := hl
      subst hm
      cases g18
      have eu := asI_eq g11
      subst eu
      have ey : y = .p (.int y0) := asI_eq g15
      subst ey
      refine ho.ok _ _ _ _ _ _ _ _ _ _ S g1 _ fun v w H1 s1 S1 hv hc => ?_
      obtain ⟨tt0, k1, k2⟩ := atP_eq g7
      obtain ⟨G, o1, r, sG⟩ := S1.at' k1 k2 hv hc
      have r := r.unb
      cases hu0 : unb t0 with
      | obj c fs0 =>
        rw [hu0] at r g9
        replace g9 : (if c = m then valT fs0 a else none) = some (.p (.int x0)) := g9
        split at g9
        · rename_i hcm
          subst hcm
          obtain ⟨ad, C, dx, ws0, o', h1, h0, h2, h3, h4⟩ := r
          subst h1
          obtain ⟨w0, p1, p2, c1, c2, _⟩ := h3.foc g9
          have ew0 : w0 = .int x0 := c2.1
          subst ew0
          obtain ⟨a1, a2⟩ := hA C h0
          refine ⟨ad, C, dx, ws0, .int x0, rfl, h2, a1, a2, c1, ?_⟩
          refine h.ok _ _ _ _ _ _ _ _ _ _ S1 g13 _ fun y2 H3 s3 S3 => ?_
          have ey2 : y2 = .int y0 := S3.top
          subst ey2
          refine ⟨x0, y0, rfl, rfl, ?_⟩
          obtain ⟨tt, k3, k4⟩ := atP_eq g17
          obtain ⟨G2, p1', p2', r1, r2, nd, sG2, fr, wr⟩ := OkS.wr (es := []) (ws := []) S3.pop rfl k3 k4 hv (hc.same s3)
          have ru := r1.unb
          rw [hun] at ru
          obtain ⟨ad', C', dx', xs, o2, h1', h0', h2', h3', h4'⟩ := ru
          cases h1'
          subst h4'
          have eC : C' = C := by
            have := (show PySem.W.nsIn X.K mainGlobals c = some (some (.ref C')) from h0').symm.trans h0
            cases this; rfl
          subst eC
          have e2' : p2' = [] := r2.2
          subst e2'
          have na : ad ∉ o2 := fun hm => (List.nodup_cons.mp (show (ad :: (o2 ++ [])).Nodup from nd)).1 (by simp [hm])
          refine ⟨dx', xs, h2', by rw [h3'.len]; omega, ?_⟩
          have m1 := h3'.mono (Same.refl G2) (H' := upd H3 ad (.ins C' dx' (putF a (.int (hh x0 y0)) xs))) _ (wN na)
          obtain ⟨o5, rest, f1, f2⟩ := m1.put (t := .p (.int (hh x0 y0))) (v := .int (hh x0 y0)) (o' := []) (f := a) ⟨rfl, rfl⟩
          have S4 := wr ad (.ins C' dx' (putF a (.int (hh x0 y0)) xs)) (reb t1 (.obj c (putFT fs a (.p (.int (hh x0 y0)))))) [] [] (ad :: o5) [] rest (by simp) (r1.reb ⟨ad, C', dx', _, _, rfl, h0', upd_same, f1, rfl⟩) ⟨rfl, rfl⟩ (by
            simp only [List.cons_append, List.append_nil] at f2 ⊢
            exact List.Perm.cons ad f2)
          rw [← putP_eq k3] at S4
          exact q _ _ S4 .rfl'
        · cases g9
      | p d => rw [hu0] at hob; cases hob
      | lst d => rw [hu0] at hob; cases hob
      | tup d => rw [hu0] at hob; cases hob
      | dic d => rw [hu0] at hob; cases hob
      | dit d => rw [hu0] at hob; cases hob
      | box _ d => rw [hu0] at hob; cases hob
      | al d => rw [hu0] at hob; cases hob
    · cases g18
  · cases g18
end
end DL

set_option Elab.async false
set_option linter.all false
set_option maxRecDepth 100000
set_option maxHeartbeats 1000000
/-! list(d), list(d.values()), dict(..). -/
namespace DB
open PySem PySem.Spec PyProof.Rows L2
theorem vals_keys : ∀ {kvs : List (Key × V)} {vs : List (Key × Value)} {its : List Value}, KV kvs vs → its.length = vs.length → (∀ (j : Nat) (v : Value), its[j]? = some v → ∃ (k : Key) (x : Value), vs[j]? = some (k, x) ∧ keyIs k v = true) → Vals (kvs.map fun kv => L2.kV kv.1) its
  | [], _, its, .nil, hl, _ => by
    cases its with
    | nil => exact .nil
    | cons _ _ => simp at hl
  | (k, y) :: kvs, _, its, .cons h t, hl, hp => by
    cases its with
    | nil => simp at hl
    | cons v its =>
      rename_i q vs
      obtain ⟨k', x, e1, e2⟩ := hp 0 v rfl
      have e1 : q = (k', x) := Option.some.inj e1
      subst e1
      refine .cons ?_ (vals_keys t (by simpa using hl) fun j u e => hp (j + 1) u (by simpa using e))
      show RelV (L2.kV k) v
      rw [show k = k' from h.1]
      exact relV_key e2
theorem vals_vals : ∀ {kvs : List (Key × V)} {vs : List (Key × Value)} {its : List Value}, KV kvs vs → its.length = vs.length → (∀ (j : Nat) (v : Value), its[j]? = some v → ∃ (k : Key), vs[j]? = some (k, v)) → Vals (kvs.map fun kv => kv.2) its
  | [], _, its, .nil, hl, _ => by
    cases its with
    | nil => exact .nil
    | cons _ _ => simp at hl
  | (k, y) :: kvs, _, its, .cons h t, hl, hp => by
    cases its with
    | nil => simp at hl
    | cons v its =>
      rename_i q vs
      obtain ⟨k', e1⟩ := hp 0 v rfl
      have e1 : q = (k', v) := Option.some.inj e1
      subst e1
      exact .cons h.2 (vals_vals t (by simpa using hl) fun j u e => hp (j + 1) u (by simpa using e))
/-- the object behind a dict, locked or not -/
theorem dict_at {X : Cx} {pins : List (Addr × Obj)} {σ : L2.St} {H : Hp} {s : Shared} {a : Addr} {kvs : List (Key × V)} (I : Inv X pins σ H s) (h : Rd H a (.dK kvs)) : ∃ vs, kvs.length ≤ sizeLine ∧ (a == sysModules) = false ∧ KV kvs vs ∧ s.heap.DictOf (mixKind X.prog X.w) a vs := by
  rcases h with h | ⟨o, h⟩
  · obtain ⟨h1, h2, vs, h3, h4⟩ := I.hok a _ h
    exact ⟨vs, h1, h2, h3, h4⟩
  · obtain ⟨_, ⟨h1, h2, vs, h3, h4⟩⟩ := I.hok a _ h
    exact ⟨vs, h1, h2, h3, h4⟩
/-- list(d) -/
theorem call_listD {X : Cx} (hc : X.calm = true) : CallR X (.type "list") (fun xs H Q => ∃ (a : Addr) (kvs : List (Key × V)), xs = [.ref a] ∧ Rd H a (.dK kvs) ∧ ∀ p, H p = none → Q (.ref p) (upd H p (.lst (kvs.map fun kv => L2.kV kv.1)))) := by
  intro pins s σ H xs us Q I r q
  obtain ⟨a, kvs, rfl, hd, q⟩ := q
  obtain ⟨u, rfl, rx⟩ := vals1 r
  cases rx
  obtain ⟨vs, hz, h0, kv, hdo⟩ := dict_at I hd
  obtain ⟨ep, hat⟩ := hdo.dictAt
  have ln : kvs.length = vs.length := Paired.length kv
  refine PySem.W.kdl_call (PySem.W.kdl_dict (knd := mixKind X.prog X.w) (kvs := vs) (ep := ep) h0) (I.ok.hd hc) hat (by omega) fun h' tk acc c kp hS hI => ?_
  have vl : Vals (kvs.map fun kv => L2.kV kv.1) acc.toList := vals_keys kv (by rw [Array.length_toList]; exact hI.1) fun j v e => hI.2 j v (by rw [← Array.getElem?_toList]; exact e)
  exact ⟨.ref s.heap.objs.size, _, I.laid (t' := tk) kp (Nat.le_refl _) (show ObjOk X.prog X.w _ h' _ (.lst (kvs.map fun kv => L2.kV kv.1)) from ⟨by rw [List.length_map]; exact hz, acc.toList, c, vl, by rw [Array.toArray_toList]; exact hS⟩), rfl, q _ (I.hok.fresh (Nat.le_refl _))⟩
def tListVals (te : TE) : TE := fun σ H Q => te σ H fun x H1 => ∃ (a : Addr) (kvs : List (Key × V)), x = .ref a ∧ Rd H1 a (.dK kvs) ∧ ∀ p, H1 p = none → Q (.ref p) (upd H1 p (.lst (kvs.map fun kv => kv.2)))
/-- list(e.values()) -/
theorem pe_listVals {X : Cx} {e : Expr} {te : TE} {p apos cpos pos : Pos} (hc : X.calm = true) (he : PE X e te) (hg : Gl X "list") (hm : X.mg "list" = none) (hv : bootBuiltins "list" = some (.type "list")) (hbase : attributeBase e "values" X.env (eval e X.env) = eval e X.env := by rfl) (hline : (apos.endLine == cpos.line) = true := by rfl)
    (hs : starEach [.Call (.Attribute e "values" apos) [] [] cpos] X.env = (false, eval (.Call (.Attribute e "values" apos) [] [] cpos) X.env) :: starEach [] X.env := by rfl) : PE X (.Call (.Name "list" p) [.Call (.Attribute e "values" apos) [] [] cpos] [] pos) (tListVals te) := by
  refine ⟨fun pins s σ H Q I hq => ?_⟩
  refine wpAny_Call_Name_kw (ld_blt I hg hm hv (PyProof.Rows.callWith_type1 ?_ hs rfl)); rw [hs]
  show wpAny _ _ (spliced ((false, eval (.Call (.Attribute e "values" apos) [] [] cpos) X.env) :: backTo pos (starEach [] X.env))) _ _ s; refine Calls.spliced_cons ?_
  refine wpAny_Call_method (T := "dict") (id := "dict.values") hbase rfl hline PySem.F.plainAttrs_dict PySem.F.slot_dict_values PySem.F.type_dict_values (thn (he.run pins s σ H _ I hq) fun u s1 ⟨x, H1, I1, rx, d, kvs, ex, hd, q⟩ => ?_)
  subst ex
  obtain rfl : u = Value.ref d := rx
  obtain ⟨vs, hz, h0, kv, hdo⟩ := dict_at I1 hd
  obtain ⟨ep, hat⟩ := hdo.dictAt
  have ln : kvs.length = vs.length := Paired.length kv
  have I2 : Inv X pins σ H1 { s1 with heap := s1.heap.push { cls := .type "dict_values", data := .fields #[.ref d] } } := I1.kept (t' := s1.toks) fun b ob q => Heap.get?_push_of_some _ q
  refine ⟨hdo.typeIs, hdo.mapOf.noDict, ?_⟩
  show wpAny _ _ (callWith cpos (.builtin "dict.values") [.ref d] [] []) _ X.xe s1
  refine method_meetsIn PySem.F.slot_dict_values PySem.F.entry_dict_values rfl (PySem.evalArgs_none ⟨rfl, hdo.typeIs, PySem.F.args_dict_values_1 _, _, meets_dict_values (mixKind X.prog X.w) d h0, ⟨vs, hdo⟩, Calls.spliced_nil ?_⟩)
  refine PySem.W.kdl_call (PySem.W.kdl_values (knd := mixKind X.prog X.w) (kvs := vs) (ep := ep)) (I1.ok.hd hc) ⟨⟨_, Heap.get?_push_size _ rfl, rfl, rfl⟩, hat.push _⟩ (by omega) fun h' tk acc c kp hS hI => ?_
  have vl : Vals (kvs.map fun kv => kv.2) acc.toList := vals_vals kv (by rw [Array.length_toList]; exact hI.1) fun j v e => hI.2 j v (by rw [← Array.getElem?_toList]; exact e)
  exact ⟨.ref _, _, I2.laid (t' := tk) kp (Nat.le_refl _) (show ObjOk X.prog X.w _ h' _ (.lst (kvs.map fun kv => kv.2)) from ⟨by rw [List.length_map]; exact hz, acc.toList, c, vl, by rw [Array.toArray_toList]; exact hS⟩), rfl, q _ (I2.hok.fresh (Nat.le_refl _))⟩
end DB
namespace DL
open PySem PySem.Spec PyProof.Rows L2
def kD : Key → D
  | .inl i => .int i
  | .inr s => .str s
theorem kD_rp {K : PySem.W.Frag} {G : Hp} (k : Key) : RpD K G (kD k) (L2.kV k) := by
  cases k with
  | inl i => exact rfl
  | inr s => exact rfl
theorem kD_rps {K : PySem.W.Frag} {G : Hp} : ∀ ks : List Key, RpDs K G (ks.map kD) (ks.map L2.kV)
  | [] => rfl
  | k :: ks => ⟨_, _, rfl, kD_rp k, kD_rps ks⟩
def keysT : T → Option (List Key)
  | .dic kvs => some (kvs.map (·.1))
  | .p (.dic kvs) => some (kvs.map (·.1))
  | _ => none
theorem RpTk.keys {K : PySem.W.Frag} {G H : Hp} : ∀ {kvs : List (Key × T)} {xs : List (Key × V)} {o : List Addr}, RpTk K G H kvs xs o → xs.map (·.1) = kvs.map (·.1)
  | [], _, _, h => by rw [h.1]; rfl
  | (j, d) :: r, _, _, ⟨v, r', o1, o2, h1, h2, h3, h4⟩ => by rw [h1, List.map_cons, List.map_cons, RpTk.keys h3]
theorem RpKs.keys {K : PySem.W.Frag} {G : Hp} : ∀ {kvs : List (Key × D)} {xs : List (Key × V)}, RpKs K G kvs xs → xs.map (·.1) = kvs.map (·.1)
  | [], _, h => by rw [show _ = _ from h]; rfl
  | (j, d) :: r, _, ⟨v, r', h1, h2, h3⟩ => by rw [h1, List.map_cons, List.map_cons, RpKs.keys h3]
theorem RpKs.vals {K : PySem.W.Frag} {G : Hp} : ∀ {kvs : List (Key × D)} {xs : List (Key × V)}, RpKs K G kvs xs → RpDs K G (kvs.map (·.2)) (xs.map (·.2))
  | [], _, h => by rw [show _ = _ from h]; exact rfl
  | (j, d) :: r, _, ⟨v, r', h1, h2, h3⟩ => by subst h1; exact ⟨v, _, rfl, h2, RpKs.vals h3⟩
section
variable {K : PySem.W.Frag} {G0 H0 H : Hp} {W : List (T × V)} {ts : List T} {vs : List V} {env : Env} {σ : St} {t : T} {v : V}
theorem OkS.keys {ks : List Key} (S : OkS K G0 H0 ((t, v) :: W) H ts vs env σ) (h : keysT (unb t) = some ks) : ∃ a xs, v = .ref a ∧ Rd H a (.dK xs) ∧ xs.map (·.1) = ks := by
  obtain ⟨G, ot, oe, s⟩ := S
  obtain ⟨o, r⟩ : ∃ o, Rp K G H t v o := s.vw (t, v) (by simp)
  have r := r.unb
  cases hu : unb t with
  | dic kvs =>
    rw [hu] at h r
    cases h
    obtain ⟨a, xs, o', h1, h2, h3, h4⟩ := r
    exact ⟨a, xs, h1, .inl h2, h3.keys⟩
  | p d =>
    rw [hu] at h r
    cases d with
    | dic kvs =>
      cases h
      obtain ⟨⟨a, xs, h1, h2, h3⟩, _⟩ := r
      exact ⟨a, xs, h1, Same.rd s.gh h2, h3.keys⟩
    | _ => cases h
  | _ => rw [hu] at h; cases h
/-- pure things given as new ones -/
theorem OkS.viewDs {ds : List D} {xs : List V} (S : OkS K G0 H0 W H ts vs env σ) (h : ∀ G ot oe, St0 K G0 H0 W G H ts vs env σ ot oe → RpDs K G ds xs) : OkS K G0 H0 W H (ds.map T.p ++ ts) (xs ++ vs) env σ := by
  obtain ⟨G, ot, oe, s⟩ := S
  exact OkS.pushD s (h G ot oe s)
end
section
variable {X : Cx} {e : Expr} {te : TE} {f : EF} {p pos apos cpos : Pos}
/-- list(d) -/
def eKeysL (f : EF) : EF := fun env => (f env).bind fun r => (keysT (unb r.1)).map fun ks => (.lst ((ks.map kD).map T.p), r.2)
theorem dt_listD (hc : X.calm = true) (hg : Gl X "list") (hm : X.mg "list" = none) (h : DV X e te f) (hv : bootBuiltins "list" = some (.type "list") := by decide +kernel) (hs : starEach [e] X.env = (false, eval e X.env) :: starEach [] X.env := by rfl) :
    DT X (.Call (.Name "list" p) [e] [] pos) (tCB (fun xs H Q => ∃ (a : Addr) (kvs : List (Key × V)), xs = [.ref a] ∧ Rd H a (.dK kvs) ∧ ∀ p, H p = none → Q (.ref p) (upd H p (.lst (kvs.map fun kv => L2.kV kv.1)))) (tCons te tNil)) (eKeysL f) := by
  refine ⟨pe_callTy (DB.call_listD hc) hg hm hv (pa_cons h.pe pa_nil hs) (by decide) (by decide) hs, ?_⟩
  intro G0 H0 W H ts vs env σ t env' S e Q q
  obtain ⟨⟨u, e1⟩, h1, h2⟩ := obind e
  obtain ⟨ks, h3, h4⟩ := omap h2
  cases h4
  refine h.ok _ _ _ _ _ _ _ _ _ _ S h1 _ fun v H1 s1 S1 => ?_
  obtain ⟨a, xs, k1, k2, k3⟩ := S1.keys h3
  refine ⟨a, xs, by rw [k1], k2, fun l hl => ?_⟩
  have hx : (xs.map fun kv => L2.kV kv.1) = ks.map L2.kV := by rw [← k3, List.map_map]; rfl
  rw [hx]
  have S2 := S1.unview.viewDs (ds := ks.map kD) (xs := ks.map L2.kV) fun G ot oe s => kD_rps ks
  exact q _ _ (s1.trans (same_upd hl)) (S2.newL (by simp) hl)
/-- list(d.values()) -/
def eValsL (f : EF) : EF := fun env => (f env).bind fun r => (dicT (unb r.1)).map fun kvs => (.lst ((kvs.map (·.2)).map T.p), r.2)
theorem St0.dicU {K : PySem.W.Frag} {G0 H0 G H : Hp} {W : List (T × V)} {ts : List T} {vs : List V} {env : Env} {σ : St} {ot oe : List Addr} {t : T} {v : V} {ds : List (Key × D)} (s : St0 K G0 H0 W G H ts vs env σ ot oe) (hq : (t, v) ∈ W) (h : dicT (unb t) = some ds) : ∃ a xs, v = .ref a ∧ Rd H a (.dK xs) ∧ RpKs K G ds xs := by
  cases t with
  | box a t =>
    obtain ⟨o, r⟩ := s.vw _ hq
    have s' : St0 K G0 H0 ((t, v) :: W) G H ts vs env σ ot oe := ⟨s.tmp, s.env, s.nd, s.fr, s.g0, s.gh, s.h0, s.nw, fun q hq => by
      rcases List.mem_cons.mp hq with e | hq
      · subst e; exact ⟨o, r.2⟩
      · exact s.vw q hq⟩
    exact s'.dic (t := t) (v := v) (by simp) h
  | _ => exact s.dic hq h
theorem dt_listVals (hc : X.calm = true) (hg : Gl X "list") (hm : X.mg "list" = none) (h : DV X e te f) (hv : bootBuiltins "list" = some (.type "list") := by decide +kernel) (hbase : attributeBase e "values" X.env (eval e X.env) = eval e X.env := by rfl) (hline : (apos.endLine == cpos.line) = true := by rfl)
    (hs : starEach [.Call (.Attribute e "values" apos) [] [] cpos] X.env = (false, eval (.Call (.Attribute e "values" apos) [] [] cpos) X.env) :: starEach [] X.env := by rfl) : DT X (.Call (.Name "list" p) [.Call (.Attribute e "values" apos) [] [] cpos] [] pos) (DB.tListVals te) (eValsL f) := by
  refine ⟨DB.pe_listVals hc h.pe hg hm hv hbase hline hs, ?_⟩
  intro G0 H0 W H ts vs env σ t env' S e Q q
  obtain ⟨⟨u, e1⟩, h1, h2⟩ := obind e
  obtain ⟨kvs, h3, h4⟩ := omap h2
  cases h4
  refine h.ok _ _ _ _ _ _ _ _ _ _ S h1 _ fun v H1 s1 S1 => ?_
  obtain ⟨G, ot, oe, s⟩ := S1
  obtain ⟨a, xs, k1, k2, k3⟩ := s.dicU (t := u) (v := v) (by simp) h3
  refine ⟨a, xs, k1, k2, fun l hl => ?_⟩
  have s' : St0 X.K G0 H0 W G H1 ts vs _ σ ot oe := ⟨s.tmp, s.env, s.nd, s.fr, s.g0, s.gh, s.h0, s.nw, fun q hq => s.vw q (List.mem_cons_of_mem _ hq)⟩
  have S2 := OkS.pushD s' k3.vals
  exact q _ _ (s1.trans (same_upd hl)) (S2.newL (by simp [k3.length]) hl)
/-- dict(d), the values frozen -/
def eDictC (f : EF) : EF := fun env => (f env).bind fun r => (dicT (unb r.1)).map fun kvs => (.dic (pairsT kvs), r.2)
theorem OkS.newDicK {K : PySem.W.Frag} {G0 H0 G H : Hp} {W : List (T × V)} {ts : List T} {vs : List V} {env : Env} {σ : St} {ot oe : List Addr} {kvs : List (Key × D)} {xs : List (Key × V)} {p : Addr} (s : St0 K G0 H0 W G H ts vs env σ ot oe) (hr : RpKs K G kvs xs) (hp : H p = none) : OkS K G0 H0 W (upd H p (.dK xs)) (.dic (pairsT kvs) :: ts) (.ref p :: vs) env σ := by
  have gp : G p = none := Same.none s.gh hp
  have ne : ∀ a u, H a = some u → a ≠ p := fun a u e z => by rw [z, hp] at e; cases e
  have all : ∀ a ∈ ot ++ oe, ∃ u, H a = some u := fun a ha => by
    rcases List.mem_append.mp ha with ha | ha
    · obtain ⟨u, e, _⟩ := s.tmp.there _ a ha; exact ⟨u, e⟩
    · obtain ⟨u, e, _⟩ := s.env.there _ a ha; exact ⟨u, e⟩
  have kp : ∀ a ∈ ot ++ oe, upd H p (.dK xs) a = H a := fun a ha => by
    obtain ⟨u, e⟩ := all a ha
    exact upd_ne (ne a u e)
  refine ⟨G, p :: ot, oe, ⟨.ref p, vs, [p], ot, rfl, ⟨p, xs, [], rfl, upd_same, rpTk_mk hr, rfl⟩, s.tmp.mono (Same.refl _) _ (fun a ha => kp a (List.mem_append_left _ ha)), rfl⟩, s.env.mono (Same.refl _) _ (fun a ha => kp a (List.mem_append_right _ ha)), ?_, fun a ha => ?_, s.g0, fun b u e => ?_, fun b u e => ?_, s.nw, fun q hq => ?_⟩
  · rw [List.cons_append]
    refine List.nodup_cons.mpr ⟨fun z => ?_, s.nd⟩
    obtain ⟨u, e⟩ := all p z
    rw [hp] at e; cases e
  · rw [List.cons_append] at ha
    rcases List.mem_cons.mp ha with e | ha
    · subst e; exact ⟨gp, Same.none s.h0 hp⟩
    · exact s.fr a ha
  · rw [upd_ne (ne b u (s.gh b u e))]; exact s.gh b u e
  · rw [upd_ne (ne b u (s.h0 b u e))]; exact s.h0 b u e
  · obtain ⟨o, h⟩ := s.vw q hq
    refine ⟨o, h.mono (Same.refl _) _ fun a ha => ?_⟩
    obtain ⟨u, e, _⟩ := h.there _ a ha
    exact upd_ne (ne a u e)
theorem dt_dictC (hg : Gl X "dict") (hm : X.mg "dict" = none) (h : DV X e te f) (hv : bootBuiltins "dict" = some (.type "dict") := by decide +kernel) (hs : starEach [e] X.env = (false, eval e X.env) :: starEach [] X.env := by rfl) :
    DT X (.Call (.Name "dict" p) [e] [] pos) (tCB (fun xs H Q => ∃ (a : Addr) (kvs : List (Key × V)), xs = [.ref a] ∧ Rd H a (.dK kvs) ∧ ∀ p, H p = none → Q (.ref p) (upd H p (.dK kvs))) (tCons te tNil)) (eDictC f) := by
  refine ⟨pe_callTy call_dictD hg hm hv (pa_cons h.pe pa_nil hs) (by decide) (by decide) hs, ?_⟩
  intro G0 H0 W H ts vs env σ t env' S e Q q
  obtain ⟨⟨u, e1⟩, h1, h2⟩ := obind e
  obtain ⟨kvs, h3, h4⟩ := omap h2
  cases h4
  refine h.ok _ _ _ _ _ _ _ _ _ _ S h1 _ fun v H1 s1 S1 => ?_
  obtain ⟨G, ot, oe, s⟩ := S1
  obtain ⟨a, xs, k1, k2, k3⟩ := s.dicU (t := u) (v := v) (by simp) h3
  have s' : St0 X.K G0 H0 W G H1 ts vs _ σ ot oe := ⟨s.tmp, s.env, s.nd, s.fr, s.g0, s.gh, s.h0, s.nw, fun q hq => s.vw q (List.mem_cons_of_mem _ hq)⟩
  exact ⟨a, xs, by rw [k1], k2, fun l hl => q _ _ (s1.trans (same_upd hl)) (OkS.newDicK s' k3 hl)⟩
/-- dict(pairs) -/
def pairsD : List D → Option (List (Key × D))
  | [] => some []
  | .tup [k, d] :: r => (keyD k).bind fun kk => (pairsD r).map ((kk, d) :: ·)
  | _ => none
def mergeD (kvs : List (Key × D)) (more : List (Key × D)) : List (Key × D) := more.foldl (fun acc kv => putD acc kv.1 kv.2) kvs
theorem pairsD_rp {K : PySem.W.Frag} {G : Hp} : ∀ {ds : List D} {kvs : List (Key × D)} {xs : List V}, pairsD ds = some kvs → RpDs K G ds xs → ∃ (ps : List Addr) (ws : List (Key × V)), xs = ps.map V.ref ∧ Paired (fun p (kv : Key × V) => SqT K G p [L2.kV kv.1, kv.2]) ps ws ∧ RpKs K G kvs ws
  | [], kvs, xs, h, r => by cases h; exact ⟨[], [], r, .nil, rfl⟩
  | d :: ds, kvs, xs, h, ⟨v, r, h1, h2, h3⟩ => by
    subst h1
    unfold pairsD at h
    split at h
    · cases ‹_ = []›
    · rename_i k d' r' e
      cases e
      obtain ⟨kk, g1, g2⟩ := obind h
      obtain ⟨ks, g3, g4⟩ := omap g2
      subst g4
      obtain ⟨ps, ws, q1, q2, q3⟩ := pairsD_rp g3 h3
      subst q1
      obtain ⟨a, zs, z1, z2, z3⟩ := h2
      obtain ⟨kv, zr, y1, y2, w, zr2, y3, y4, y5⟩ := z3
      have y5 : zr2 = [] := y5
      subst y5 y3 y1
      have ek : kv = L2.kV kk := keyD_rp g1 y2
      subst ek
      exact ⟨a :: ps, (kk, w) :: ws, by rw [z1]; rfl, .cons z2 q2, ⟨w, ws, rfl, y4, q3⟩⟩
    · cases h
theorem paired_imp {α β : Type} {F F' : α → β → Prop} (h : ∀ a b, F a b → F' a b) : ∀ {xs : List α} {ys : List β}, Paired F xs ys → Paired F' xs ys
  | _, _, .nil => .nil
  | _, _, .cons r t => .cons (h _ _ r) (paired_imp h t)
theorem RpKs.merge {K : PySem.W.Frag} {G : Hp} : ∀ {more : List (Key × D)} {ys : List (Key × V)} {kvs : List (Key × D)} {xs : List (Key × V)}, RpKs K G kvs xs → RpKs K G more ys → RpKs K G (mergeD kvs more) (mergeK xs ys)
  | [], _, _, _, h, h' => by rw [show _ = _ from h']; exact h
  | (k, d) :: more, _, _, _, h, ⟨v, r, h1, h2, h3⟩ => by
    subst h1
    have := RpKs.merge (h.put (k := k) h2) h3
    exact this
def eDictP (f : EF) : EF := fun env => (f env).bind fun r => (itemsT r.1).bind fun ds => if isLT r.1 = true then (pairsD ds).map fun kvs => (.dic (pairsT (mergeD [] kvs)), r.2) else none
theorem dt_dictP (hc : X.calm = true) (hg : Gl X "dict") (hm : X.mg "dict" = none) (h : DV X e te f) (hv : bootBuiltins "dict" = some (.type "dict") := by decide +kernel) (hs : starEach [e] X.env = (false, eval e X.env) :: starEach [] X.env := by rfl) :
    DT X (.Call (.Name "dict" p) [e] [] pos) (tCB (fun xs H Q => ∃ (a : Addr) (ps : List Addr) (kvs : List (Key × V)), xs = [.ref a] ∧ SqL X.K H a (ps.map V.ref) ∧ Paired (fun p (kv : Key × V) => SqT X.K H p [L2.kV kv.1, kv.2]) ps kvs ∧ ∀ p, H p = none → Q (.ref p) (upd H p (.dK (mergeK [] kvs)))) (tCons te tNil)) (eDictP f) := by
  refine ⟨pe_callTy (call_dictP hc) hg hm hv (pa_cons h.pe pa_nil hs) (by decide) (by decide) hs, ?_⟩
  intro G0 H0 W H ts vs env σ t env' S e Q q
  obtain ⟨⟨u, e1⟩, h1, h2⟩ := obind e
  obtain ⟨ds, h3, h4⟩ := obind h2
  by_cases hl : isLT u = true
  · rw [if_pos (show isLT (u, e1).1 = true from hl)] at h4
    obtain ⟨kvs, h5, h6⟩ := omap h4
    cases h6
    refine h.ok _ _ _ _ _ _ _ _ _ _ S h1 _ fun v H1 s1 S1 => ?_
    obtain ⟨a, xs, rfl, k1, k2, k3, S2⟩ := S1.items h3
    obtain ⟨G, ot, oe, s⟩ := S2
    obtain ⟨o1, o2, d1, d2, d3⟩ := s.tmp.split (us := ds.map T.p) (by rw [List.length_map]; exact k3)
    obtain ⟨dd, de⟩ := rpDs_of d1
    subst de
    have d3 : ot = o2 := d3
    subst d3
    obtain ⟨ps, ws, q1, q2, q3⟩ := pairsD_rp h5 dd
    subst q1
    have s' : St0 X.K G0 H0 W G H1 ts vs _ σ ot oe := ⟨d2, s.env, s.nd, s.fr, s.g0, s.gh, s.h0, s.nw, s.vw⟩
    have q2' : Paired (fun p (kv : Key × V) => SqT X.K H1 p [L2.kV kv.1, kv.2]) ps ws := paired_imp (fun _ _ h => Same.sqT s.gh h) q2
    exact ⟨a, ps, ws, rfl, k1 hl, q2', fun l hl => q _ _ (s1.trans (same_upd hl)) (OkS.newDicK s' (RpKs.merge (show RpKs X.K G [] [] from rfl) q3) hl)⟩
  · rw [if_neg (show ¬ isLT (u, e1).1 = true from hl)] at h4; cases h4
end
end DL

set_option Elab.async false
set_option linter.all false
set_option maxRecDepth 100000
set_option maxHeartbeats 1000000
/-! Walks over a dict of a name: it is locked while they last. -/
namespace DL
open PySem PySem.Spec PyProof.Rows L2
def Plain (u : HO) : Prop := ∀ o x, u ≠ .frz o x
/-- what stands as pure stands after a lock is laid or lifted -/
structure SwR (G G' : Hp) : Prop where
  rd : ∀ a u, Plain u → Rd G a u → Rd G' a u
  ins : ∀ a C dx fs, G a = some (.ins C dx fs) → G' a = some (.ins C dx fs)
theorem SwR.sqT {K : PySem.W.Frag} {G G' : Hp} (e : SwR G G') {a : Addr} {xs : List V} (h : SqT K G a xs) : SqT K G' a xs := by
  rcases h with h | h
  · exact .inl (e.rd a _ (fun _ _ z => by cases z) h)
  · exact .inr h
section
variable {K : PySem.W.Frag} {G G' H H' : Hp}
mutual
theorem RpD.sw (e : SwR G G') : ∀ (d : D) {v : V}, RpD K G d v → RpD K G' d v
  | .non, _, h => h
  | .bl _, _, h => h
  | .int _, _, h => h
  | .str _, _, h => h
  | .lst ds, _, ⟨a, vs, h1, h2, h3⟩ => ⟨a, vs, h1, e.rd a _ (fun _ _ z => by cases z) h2, RpDs.sw e ds h3⟩
  | .tup ds, _, ⟨a, vs, h1, h2, h3⟩ => ⟨a, vs, h1, e.sqT h2, RpDs.sw e ds h3⟩
  | .dic kvs, _, ⟨a, ws, h1, h2, h3⟩ => ⟨a, ws, h1, e.rd a _ (fun _ _ z => by cases z) h2, RpKs.sw e kvs h3⟩
  | .dit kvs, _, ⟨a, ws, h1, h2, h3⟩ => ⟨a, ws, h1, e.rd a _ (fun _ _ z => by cases z) h2, RpKt.sw e kvs h3⟩
  | .obj n fs, _, ⟨a, C, dx, ws, h1, h2, h3, h4⟩ => ⟨a, C, dx, ws, h1, h2, e.ins _ _ _ _ h3, RpKf.sw e fs h4⟩
  | .al _, _, h => h
theorem RpDs.sw (e : SwR G G') : ∀ (ds : List D) {vs : List V}, RpDs K G ds vs → RpDs K G' ds vs
  | [], _, h => h
  | d :: ds, _, ⟨v, r, h1, h2, h3⟩ => ⟨v, r, h1, RpD.sw e d h2, RpDs.sw e ds h3⟩
theorem RpKs.sw (e : SwR G G') : ∀ (ds : List (Key × D)) {vs : List (Key × V)}, RpKs K G ds vs → RpKs K G' ds vs
  | [], _, h => h
  | (k, d) :: ds, _, ⟨v, r, h1, h2, h3⟩ => ⟨v, r, h1, RpD.sw e d h2, RpKs.sw e ds h3⟩
theorem RpKt.sw (e : SwR G G') : ∀ (ds : List (List Key × D)) {vs : List (List Key × V)}, RpKt K G ds vs → RpKt K G' ds vs
  | [], _, h => h
  | (k, d) :: ds, _, ⟨v, r, h1, h2, h3⟩ => ⟨v, r, h1, RpD.sw e d h2, RpKt.sw e ds h3⟩
theorem RpKf.sw (e : SwR G G') : ∀ (ds : List (Str × D)) {vs : List (Str × V)}, RpKf K G ds vs → RpKf K G' ds vs
  | [], _, h => h
  | (k, d) :: ds, _, ⟨v, r, h1, h2, h3⟩ => ⟨v, r, h1, RpD.sw e d h2, RpKf.sw e ds h3⟩
end
mutual
theorem Rp.sw (e : SwR G G') : ∀ (t : T) {v : V} {o : List Addr}, (∀ a ∈ o, H' a = H a) → Rp K G H t v o → Rp K G' H' t v o
  | .p d, _, _, _, ⟨h1, h2⟩ => ⟨RpD.sw e d h1, h2⟩
  | .lst ts, _, _, k, ⟨a, vs, o', h1, h2, h3, h4⟩ => ⟨a, vs, o', h1, by rw [k a (by rw [h4]; simp)]; exact h2, RpTs.sw e ts (fun b hb => k b (by rw [h4]; simp [hb])) h3, h4⟩
  | .tup ts, _, _, k, ⟨a, vs, h1, h2, h3⟩ => ⟨a, vs, h1, e.rd a _ (fun _ _ z => by cases z) h2, RpTs.sw e ts k h3⟩
  | .dic kvs, _, _, k, ⟨a, ws, o', h1, h2, h3, h4⟩ => ⟨a, ws, o', h1, by rw [k a (by rw [h4]; simp)]; exact h2, RpTk.sw e kvs (fun b hb => k b (by rw [h4]; simp [hb])) h3, h4⟩
  | .dit kvs, _, _, k, ⟨a, ws, o', h1, h2, h3, h4⟩ => ⟨a, ws, o', h1, by rw [k a (by rw [h4]; simp)]; exact h2, RpTt.sw e kvs (fun b hb => k b (by rw [h4]; simp [hb])) h3, h4⟩
  | .obj n fs, _, _, k, ⟨a, C, dx, ws, o', h1, h0, h2, h3, h4⟩ => ⟨a, C, dx, ws, o', h1, h0, by rw [k a (by rw [h4]; simp)]; exact h2, RpTf.sw e fs (fun b hb => k b (by rw [h4]; simp [hb])) h3, h4⟩
  | .box a t, _, _, k, ⟨h1, h2⟩ => ⟨h1, Rp.sw e t k h2⟩
  | .al a, _, _, _, h => h
theorem RpTs.sw (e : SwR G G') : ∀ (ts : List T) {vs : List V} {o : List Addr}, (∀ a ∈ o, H' a = H a) → RpTs K G H ts vs o → RpTs K G' H' ts vs o
  | [], _, _, _, h => h
  | t :: ts, _, _, k, ⟨v, r, o1, o2, h1, h2, h3, h4⟩ => ⟨v, r, o1, o2, h1, Rp.sw e t (fun b hb => k b (by rw [h4]; simp [hb])) h2, RpTs.sw e ts (fun b hb => k b (by rw [h4]; simp [hb])) h3, h4⟩
theorem RpTk.sw (e : SwR G G') : ∀ (ts : List (Key × T)) {vs : List (Key × V)} {o : List Addr}, (∀ a ∈ o, H' a = H a) → RpTk K G H ts vs o → RpTk K G' H' ts vs o
  | [], _, _, _, h => h
  | (_, t) :: ts, _, _, k, ⟨v, r, o1, o2, h1, h2, h3, h4⟩ => ⟨v, r, o1, o2, h1, Rp.sw e t (fun b hb => k b (by rw [h4]; simp [hb])) h2, RpTk.sw e ts (fun b hb => k b (by rw [h4]; simp [hb])) h3, h4⟩
theorem RpTt.sw (e : SwR G G') : ∀ (ts : List (List Key × T)) {vs : List (List Key × V)} {o : List Addr}, (∀ a ∈ o, H' a = H a) → RpTt K G H ts vs o → RpTt K G' H' ts vs o
  | [], _, _, _, h => h
  | (_, t) :: ts, _, _, k, ⟨v, r, o1, o2, h1, h2, h3, h4⟩ => ⟨v, r, o1, o2, h1, Rp.sw e t (fun b hb => k b (by rw [h4]; simp [hb])) h2, RpTt.sw e ts (fun b hb => k b (by rw [h4]; simp [hb])) h3, h4⟩
theorem RpTf.sw (e : SwR G G') : ∀ (ts : List (Str × T)) {vs : List (Str × V)} {o : List Addr}, (∀ a ∈ o, H' a = H a) → RpTf K G H ts vs o → RpTf K G' H' ts vs o
  | [], _, _, _, h => h
  | (_, t) :: ts, _, _, k, ⟨v, r, o1, o2, h1, h2, h3, h4⟩ => ⟨v, r, o1, o2, h1, Rp.sw e t (fun b hb => k b (by rw [h4]; simp [hb])) h2, RpTf.sw e ts (fun b hb => k b (by rw [h4]; simp [hb])) h3, h4⟩
end
theorem RpE.sw (e : SwR G G') : ∀ (es : Env) {σ : St} {o : List Addr}, (∀ a ∈ o, H' a = H a) → RpE K G H es σ o → RpE K G' H' es σ o
  | [], _, _, _, h => h
  | none :: es, _, _, k, ⟨x, r, h1, h2⟩ => ⟨x, r, h1, RpE.sw e es k h2⟩
  | some t :: es, _, _, k, ⟨v, r, o1, o2, h1, h2, h3, h4⟩ => ⟨v, r, o1, o2, h1, Rp.sw e t (fun b hb => k b (by rw [h4]; simp [hb])) h2, RpE.sw e es (fun b hb => k b (by rw [h4]; simp [hb])) h3, h4⟩
end
/-- where it stands: u in the place of what is at d -/
def lk (G : Hp) (d : Addr) (u : HO) : Hp := fun a => if a = d then (match G d with | some _ => some u | none => none) else G a
theorem lk_ne {G : Hp} {d a : Addr} {u : HO} (h : a ≠ d) : lk G d u a = G a := if_neg h
theorem lk_at {G : Hp} {d : Addr} {u x : HO} (h : G d = some x) : lk G d u d = some u := by unfold lk; rw [if_pos rfl, h]
theorem lk_no {G : Hp} {d : Addr} {u : HO} (h : G d = none) : lk G d u d = none := by unfold lk; rw [if_pos rfl, h]
theorem lk_same {G H : Hp} {d : Addr} {u x : HO} (e : Same G H) (hd : H d = some x) : Same (lk G d u) (lk H d u) := fun a y h => by
  by_cases c : a = d
  · subst c
    cases g : G a with
    | none => rw [lk_no g] at h; cases h
    | some z => rw [lk_at g] at h; rw [lk_at hd]; exact h
  · rw [lk_ne c] at h ⊢; exact e a y h
theorem lk_upd {H : Hp} {d : Addr} {u x : HO} (hd : H d = some x) : lk H d u = upd H d u := by
  funext a
  by_cases c : a = d
  · subst c; rw [lk_at hd, upd_same]
  · rw [lk_ne c, upd_ne c]
theorem lk_none {G : Hp} {d a : Addr} {u : HO} (h : G a = none) : lk G d u a = none := by
  by_cases c : a = d
  · subst c; exact lk_no h
  · rw [lk_ne c]; exact h
theorem SwR.lk {G : Hp} {d : Addr} {x u : HO} (gd : G d = some x) (hxu : ∀ y, Plain y → (x = y ∨ ∃ o, x = .frz o y) → (u = y ∨ ∃ o, u = .frz o y)) (hi : ∀ C dx fs, x ≠ .ins C dx fs) : SwR G (lk G d u) := ⟨fun a y hp h => by
    by_cases c : a = d
    · subst c
      have : x = y ∨ ∃ o, x = .frz o y := by
        rcases h with h | ⟨o, h⟩
        · rw [gd] at h; exact .inl (Option.some.inj h)
        · rw [gd] at h; exact .inr ⟨o, Option.some.inj h⟩
      rcases hxu y hp this with q | ⟨o, q⟩
      · exact .inl (by rw [lk_at gd, q])
      · exact .inr ⟨o, by rw [lk_at gd, q]⟩
    · rcases h with h | ⟨o, h⟩
      · exact .inl (by rw [lk_ne c]; exact h)
      · exact .inr ⟨o, by rw [lk_ne c]; exact h⟩, fun a C dx fs h => by
    have : a ≠ d := fun z => by subst z; rw [gd] at h; exact hi _ _ _ (Option.some.inj h)
    rw [lk_ne this]; exact h⟩
/-- a lock laid, or lifted -/
theorem OkS.swap {K : PySem.W.Frag} {G0 H0 H : Hp} {ts : List T} {vs : List V} {env : Env} {σ : St} {d : Addr} {x u : HO} (S : OkS K G0 H0 [] H ts vs env σ) (hx : ∀ G, Same G0 G → Same G H → G d = some x) (hd : H d = some x)
    (hxu : ∀ y, Plain y → (x = y ∨ ∃ o, x = .frz o y) → (u = y ∨ ∃ o, u = .frz o y)) (hi : ∀ C dx fs, x ≠ .ins C dx fs) (hxt : ∀ xs, x ≠ .tup xs) : OkS K (lk G0 d u) (lk H0 d u) [] (upd H d u) ts vs env σ := by
  obtain ⟨G, ot, oe, s⟩ := S
  have gd : G d = some x := hx G s.g0 s.gh
  have sw : SwR G (lk G d u) := SwR.lk gd hxu hi
  have ne : ∀ a ∈ ot ++ oe, a ≠ d := fun a ha z => by
    have := (s.fr a ha).1
    rw [z, gd] at this; cases this
  have kp : ∀ a ∈ ot ++ oe, upd H d u a = H a := fun a ha => upd_ne (ne a ha)
  refine ⟨lk G d u, ot, oe, s.tmp.sw sw _ (fun a ha => kp a (List.mem_append_left _ ha)), s.env.sw sw _ (fun a ha => kp a (List.mem_append_right _ ha)), s.nd, fun a ha => ⟨by rw [lk_ne (ne a ha)]; exact (s.fr a ha).1, by rw [lk_ne (ne a ha)]; exact (s.fr a ha).2⟩, lk_same s.g0 gd, ?_, ?_, fun a o e => ?_, fun q hq => ?_⟩
  · rw [← lk_upd hd]; exact lk_same s.gh hd
  · rw [← lk_upd hd]; exact lk_same s.h0 hd
  · by_cases c : a = d
    · subst c
      rcases s.nw a x gd with z | z | ⟨xs, z⟩
      · cases g : G0 a with
        | none => exact absurd g z
        | some y => exact .inl (by rw [lk_at g]; simp)
      · exact .inr (.inl (lk_none z))
      · exact absurd z (hxt xs)
    · rw [lk_ne c] at e ⊢
      rw [lk_ne c]
      exact s.nw a o e
  · cases hq
theorem lk_lk {G : Hp} {d : Addr} {u x : HO} (h : G d = some x) : lk (lk G d u) d x = G := by
  funext a
  by_cases c : a = d
  · subst c; rw [lk_at (lk_at h), h]
  · rw [lk_ne c, lk_ne c]
theorem lk_lk0 {G : Hp} {d : Addr} {u x : HO} (h : ∀ y, G d = some y → y = x) : lk (lk G d u) d x = G := by
  cases g : G d with
  | some y => have := h y g; subst this; exact lk_lk g
  | none =>
    funext a
    by_cases c : a = d
    · subst c; rw [lk_no (lk_no g), g]
    · rw [lk_ne c, lk_ne c]
/-- what a walk asks of its body, for an iterator at hand -/
def forR (J : It) (g : TG) (tb : TS) (D : Ends) (σ : St) (H1 : Hp) : Prop := ∃ W : Nat → Nat → St → Hp → Prop, (∃ m, W 0 m σ H1) ∧ ∀ i m σ H, W i m σ H →
  (J.stop i H ∧ D.nx σ H) ∨ (J.go i H ∧ ∃ N : St → Hp → Prop, (∀ σ' H', N σ' H' → ∃ m', m' < m ∧ W (i + 1) m' σ' H') ∧ ∀ x H', J.yld i H x H' → g x σ H' fun σ2 H2 => tb { D with nx := N, ct := N, bk := D.nx } σ2 H2)
section
variable {K : PySem.W.Frag} {G0 H0 G1 H H1 : Hp} {ts : List T} {vs : List V} {σ : St}
theorem for_run {g : TG} {G : GF} {tb : TS} {F : SF} {sl sl2 : List Nat} {J : It} {ds : List D} {e1 env' : Env} {fl : Fl} (hg : EvG K g G sl) (hb : EvS K tb F sl2) (I : ItOk K G1 J ds) (S1 : OkS K G1 H0 [] H1 ts vs e1 σ) (g2 : loopD G F ds e1 = some (fl, env')) {D : Ends} (q : Post K G1 H0 ts vs D fl env' (sl ++ sl2) σ) : forR J g tb D σ H1 := by
  refine ⟨fun i m σ2 H => m = ds.length - i ∧ i ≤ ds.length ∧ Dif (sl ++ sl2) σ σ2 ∧ ∃ env, OkS K G1 H0 [] H ts vs env σ2 ∧ loopD G F (ds.drop i) env = some (fl, env'), ⟨ds.length, by simp, Nat.zero_le _, .rfl', e1, S1, by simpa using g2⟩, ?_⟩
  rintro i m σ2 H2 ⟨rfl, hle, df, env2, S2, hl⟩
  by_cases hlt : i < ds.length
  · refine .inr ⟨I.go i H2 S2.same hlt, fun σ' H' => i + 1 ≤ ds.length ∧ Dif (sl ++ sl2) σ σ' ∧ ∃ env, OkS K G1 H0 [] H' ts vs env σ' ∧ loopD G F (ds.drop (i + 1)) env = some (fl, env'), fun σ' H' ⟨h1, h2⟩ => ⟨ds.length - (i + 1), by omega, rfl, h1, h2⟩, fun x H3 y => ?_⟩
    obtain ⟨s3, S3⟩ := I.item S2 (List.getElem?_eq_getElem hlt) y
    rw [List.drop_eq_getElem_cons hlt] at hl
    obtain ⟨e2, l1, l2⟩ := obind hl
    obtain ⟨⟨fl2, e3⟩, l3, l4⟩ := obind l2
    refine hg _ _ _ _ _ _ _ _ _ _ _ S3 l1 _ fun σ' S' f1 => ?_
    refine hb _ _ _ _ _ _ _ _ _ S' l3 _ ?_
    cases fl2 with
    | nx => exact fun H' σ4 S4 f2 => ⟨hlt, df.two (f1.tr f2), e3, S4, l4⟩
    | ct => exact fun H' σ4 S4 f2 => ⟨hlt, df.two (f1.tr f2), e3, S4, l4⟩
    | bk => cases l4; exact fun H' σ4 S4 f2 => q H' σ4 S4 (df.two (f1.tr f2))
    | rt t => cases l4; exact fun v H' σ' S4 f2 => q v H' σ' S4 (df.two (f1.tr f2))
  · have hi' : i = ds.length := by omega
    subst hi'
    rw [List.drop_length] at hl
    cases hl
    exact .inl ⟨I.stop H2 S2.same, q H2 σ2 S2 df⟩
end
/-- an iterator over a locked dict -/
structure ItD (K : PySem.W.Frag) (it : Addr → Obj → List (Key × V) → It) (mk : Key × D → D) : Prop where
  ok : ∀ {G : Hp} {a : Addr} {o : Obj} {kvs : List (Key × D)} {xs : List (Key × V)}, G a = some (.frz o (.dK xs)) → RpKs K G kvs xs → ItOk K G (it a o xs) (kvs.map mk)
theorem RpKs.get {K : PySem.W.Frag} {G : Hp} : ∀ {kvs : List (Key × D)} {xs : List (Key × V)}, RpKs K G kvs xs → ∀ (i : Nat) (k : Key) (d : D), kvs[i]? = some (k, d) → ∃ v, xs[i]? = some (k, v) ∧ RpD K G d v
  | [], _, _, i, _, _, e => by simp at e
  | (k, d) :: kvs, _, ⟨v, r, h1, h2, h3⟩, 0, _, _, e => by
    simp at e; obtain ⟨rfl, rfl⟩ := e; subst h1; exact ⟨v, rfl, h2⟩
  | (k, d) :: kvs, _, ⟨v, r, h1, h2, h3⟩, i + 1, k', d', e => by
    subst h1
    obtain ⟨v', f1, f2⟩ := RpKs.get h3 i k' d' (by simpa using e)
    exact ⟨v', by simpa using f1, f2⟩
theorem RpKs.len {K : PySem.W.Frag} {G : Hp} {kvs : List (Key × D)} {xs : List (Key × V)} (h : RpKs K G kvs xs) : xs.length = kvs.length := by
  have := congrArg List.length h.keys
  simpa using this
theorem itD_keys {K : PySem.W.Frag} : ItD K Itk (fun kv => kD kv.1) where
  ok := fun {G a o kvs xs} h r => {
    go := fun i H s hi => ⟨s _ _ h, by rw [r.len]; simpa using hi⟩
    stop := fun H s => ⟨s _ _ h, by rw [r.len, List.length_map]; exact Nat.le_refl _⟩
    yld := fun i H x H' d s hd y => by
      obtain ⟨e, k, v, h1, h2⟩ := y
      rw [List.getElem?_map] at hd
      cases hk : kvs[i]? with
      | none => rw [hk] at hd; cases hd
      | some kd =>
        rw [hk] at hd
        cases hd
        obtain ⟨v', f1, f2⟩ := r.get i kd.1 kd.2 hk
        rw [h1] at f1; cases f1
        exact .inl ⟨e, by rw [h2]; exact kD_rp _⟩ }
theorem itD_items {K : PySem.W.Frag} : ItD K Iti (fun kv => .tup [kD kv.1, kv.2]) where
  ok := fun {G a o kvs xs} h r => {
    go := fun i H s hi => ⟨s _ _ h, by rw [r.len]; simpa using hi⟩
    stop := fun H s => ⟨s _ _ h, by rw [r.len, List.length_map]; exact Nat.le_refl _⟩
    yld := fun i H x H' d s hd y => by
      obtain ⟨p, k, v, h1, h2, h3, h4⟩ := y
      rw [List.getElem?_map] at hd
      cases hk : kvs[i]? with
      | none => rw [hk] at hd; cases hd
      | some kd =>
        rw [hk] at hd
        cases hd
        obtain ⟨v', f1, f2⟩ := r.get i kd.1 kd.2 hk
        rw [h1] at f1; cases f1
        exact .inr ⟨p, _, _, h3, h4, h2, rfl, L2.kV kd.1, [v], rfl, kD_rp _, v, [], rfl, f2, rfl⟩ }
theorem itD_vals {K : PySem.W.Frag} : ItD K Itd (fun kv => kv.2) where
  ok := fun {G a o kvs xs} h r => {
    go := fun i H s hi => ⟨s _ _ h, by rw [r.len]; simpa using hi⟩
    stop := fun H s => ⟨s _ _ h, by rw [r.len, List.length_map]; exact Nat.le_refl _⟩
    yld := fun i H x H' d s hd y => by
      obtain ⟨e, k, h1⟩ := y
      rw [List.getElem?_map] at hd
      cases hk : kvs[i]? with
      | none => rw [hk] at hd; cases hd
      | some kd =>
        rw [hk] at hd
        cases hd
        obtain ⟨v', f1, f2⟩ := r.get i kd.1 kd.2 hk
        rw [h1] at f1; cases f1
        exact .inl ⟨e, f2⟩ }
def iDic (mk : Key × D → D) (f : EF) : IF := fun env => (f env).bind fun r => match r.1 with
  | .p (.dic kvs) => some (kvs.map mk, r.2)
  | _ => none
def tDic (wi : TI) (g : TG) (tb : TS) : TS := fun D σ H => tFor wi g tb D σ H ∨ tLock (tFor wi g tb) D σ H
theorem Post.imp {K : PySem.W.Frag} {G0 H0 G0' H0' : Hp} {ts : List T} {vs : List V} {D D' : Ends} {fl : Fl} {env' : Env} {sl : List Nat} {σ : St} (q : Post K G0 H0 ts vs D fl env' sl σ)
    (h : ∀ (ts' : List T) (vs' : List V) H' σ', OkS K G0' H0' [] H' ts' vs' env' σ' → ∃ H'', OkS K G0 H0 [] H'' ts' vs' env' σ' ∧ (D.nx σ' H'' → D'.nx σ' H') ∧ (D.bk σ' H'' → D'.bk σ' H') ∧ (D.ct σ' H'' → D'.ct σ' H') ∧ (∀ v, D.rt v H'' → D'.rt v H')) : Post K G0' H0' ts vs D' fl env' sl σ := by
  cases fl with
  | nx => intro H' σ' S f; obtain ⟨H'', S', a, b, c, d⟩ := h _ _ _ _ S; exact a (q H'' σ' S' f)
  | bk => intro H' σ' S f; obtain ⟨H'', S', a, b, c, d⟩ := h _ _ _ _ S; exact b (q H'' σ' S' f)
  | ct => intro H' σ' S f; obtain ⟨H'', S', a, b, c, d⟩ := h _ _ _ _ S; exact c (q H'' σ' S' f)
  | rt t => intro v H' σ' S f; obtain ⟨H'', S', a, b, c, d⟩ := h _ _ _ _ S; exact d v (q v H'' σ' S' f)
theorem ds_forD {X : Cx} {tg iter : Expr} {body : List Stmt} {wi : TI} {it : Addr → Obj → List (Key × V) → It} {mk : Key × D → D} {f : EF} {te : TE} {g : TG} {G : GF} {tb : TS} {F : SF} {pos : Pos} {sl sl2 : List Nat} (hp : PassesOwn (model X.prog X.w) X.A X.env X.xe) (hc : X.calm = true) (hi : PI X tg iter wi) (hI : ItD X.K it mk)
    (hw : ∀ (σ : St) (H : Hp) (R : It → Hp → Prop), te σ H (fun x H1 => ∃ d o kvs, x = .ref d ∧ H1 d = some (.frz o (.dK kvs)) ∧ R (it d o kvs) H1) → wi σ H R)
    (ht : ∀ (G0 H0 H : Hp) (ts : List T) (vs : List V) (env : Env) (σ : St) (t : T) (env' : Env), OkS X.K G0 H0 [] H ts vs env σ → f env = some (t, env') → ∃ v, OkS X.K G0 H0 [] H (t :: ts) (v :: vs) env' σ ∧ ∀ (H' : Hp) (Q : VK), Q v H' → te σ H' Q)
    (hg : DG X tg g G sl) (hb : DSs X body tb F sl2)
    (hs : ∀ x, foldedSetIterable iter X.env x = pure x := by intro _; rfl) : DS X (.For tg iter body [] pos) (tDic wi g tb) (sFor (iDic mk f) G F) (sl ++ sl2) := by
  have ps0 := ps_for (tb := tb) hp hc hi hg.pg hb.ps (pos := pos) hs
  refine ⟨⟨fun pins s σ H D I hh => ?_⟩, ?_⟩
  · rcases hh with hh | hh
    · exact ps0.run pins s σ H D I hh
    · exact (ps_lock ps0).run pins s σ H D I hh
  intro G0 H0 H ts vs env σ fl env' S e D q
  obtain ⟨⟨ds, e1⟩, g1, g2⟩ := obind e
  obtain ⟨⟨t, e2⟩, g3, g4⟩ := obind g1
  dsimp only at g4
  split at g4
  · rename_i kvs
    cases g4
    obtain ⟨v, S1, hq⟩ := ht _ _ _ _ _ _ _ _ _ S g3
    obtain ⟨G1, gst, sG, ⟨a, xs, ev, hrd, hks⟩, S2⟩ := S1.fixTop
    subst ev
    rcases hrd with hd | ⟨o, hd⟩
    · -- laid
      have hH : H a = some (.dK xs) := sG _ _ hd
      refine .inr ⟨a, .dK xs, hH, by simp [Mut], fun od => ?_⟩
      refine hw _ _ _ (hq _ _ ⟨a, od, xs, rfl, upd_same, ?_⟩)
      have hxu : ∀ y, Plain y → (HO.dK xs = y ∨ ∃ o, HO.dK xs = .frz o y) → (HO.frz od (.dK xs) = y ∨ ∃ o, HO.frz od (.dK xs) = .frz o y) := fun y hp h => by
        rcases h with h | ⟨o, h⟩
        · exact .inr ⟨od, by rw [h]⟩
        · cases h
      have h00 : ∀ y, H0 a = some y → y = .dK xs := fun y hy => by
        obtain ⟨G, ot, oe, s⟩ := S2
        have := s.h0 a y hy
        rw [hH] at this; cases this; rfl
      have S3 := S2.swap (d := a) (x := .dK xs) (u := .frz od (.dK xs)) (fun G h1 h2 => h1 _ _ hd) hH hxu (fun _ _ _ h => by cases h) (fun _ h => by cases h)
      have sw : SwR G1 (lk G1 a (.frz od (.dK xs))) := SwR.lk hd hxu (fun _ _ _ h => by cases h)
      refine for_run (G1 := lk G1 a (.frz od (.dK xs))) (H0 := lk H0 a (.frz od (.dK xs))) hg.ok hb.ok (hI.ok (lk_at hd) (RpKs.sw sw _ hks)) S3 g2 ?_
      refine q.imp fun ts' vs' H' σ' S4 => ?_
      have h4 : H' a = some (.frz od (.dK xs)) := S4.same _ _ (lk_at hd)
      have S5 := S4.swap (d := a) (x := .frz od (.dK xs)) (u := .dK xs) (fun G h1 h2 => h1 _ _ (lk_at hd)) h4 (fun y hp h => by
        rcases h with h | ⟨o, h⟩
        · exact absurd h.symm (hp _ _)
        · cases h; exact .inl rfl) (fun _ _ _ h => by cases h) (fun _ h => by cases h)
      rw [lk_lk hd, lk_lk0 h00] at S5
      exact ⟨upd H' a (.dK xs), S5.back gst, fun h => ⟨h4, h⟩, fun h => ⟨h4, h⟩, fun h => ⟨h4, h⟩, fun v h => ⟨h4, h⟩⟩
    · have hH : H a = some (.frz o (.dK xs)) := sG _ _ hd
      refine .inl (hw _ _ _ (hq _ _ ⟨a, o, xs, rfl, hH, ?_⟩))
      refine for_run hg.ok hb.ok (hI.ok hd hks) S2 g2 ?_
      exact q.imp fun ts' vs' H' σ' S4 => ⟨H', S4.back gst, id, id, id, fun _ => id⟩
  · cases g4

/-! ### d, d.items(), d.values() of a name -/
theorem ev_vt {X : Cx} {i : Nat} (G0 H0 H : Hp) (ts : List T) (vs : List V) (env : Env) (σ : St) (t : T) (env' : Env) (S : OkS X.K G0 H0 [] H ts vs env σ) (g : eV i env = some (t, env')) : ∃ v, OkS X.K G0 H0 [] H (t :: ts) (v :: vs) env' σ ∧ ∀ (H' : Hp) (Q : VK), Q v H' → tVar i σ H' Q := by
  obtain ⟨v, hv, S1⟩ := ev_v (K := X.K) (i := i) _ _ _ _ _ _ _ _ _ _ S g (fun v H' => OkS X.K G0 H0 [] H' (t :: ts) (v :: vs) env' σ) (fun v H' e S => S)
  exact ⟨v, S1, fun H' Q q => ⟨v, hv, q⟩⟩
def iKy (f : EF) : IF := iDic (fun kv => kD kv.1) f
def iIts (f : EF) : IF := iDic (fun kv => .tup [kD kv.1, kv.2]) f
def iVls (f : EF) : IF := iDic (fun kv => kv.2) f
section
variable {X : Cx} {tg : Expr} {body : List Stmt} {g : TG} {G : GF} {tb : TS} {F : SF} {pos npos apos cpos tpos : Pos} {sl sl2 : List Nat} {x : Str}
theorem ds_forKeys (i : Nat) (hp : PassesOwn (model X.prog X.w) X.A X.env X.xe) (hc : X.calm = true) (hg : DG X tg g G sl) (hb : DSs X body tb F sl2)
    (hN : X.N[i]? = some x := by rfl) (hv : Vis X.env.scope x := by first | exact Or.inl rfl | exact Or.inr (Or.inl rfl) | exact Or.inr (Or.inr rfl)) (hd : (x == ("__debug__" : Str)) = false := by decide) (hcd : (x == ("__classdict__" : Str)) = false := by decide)
    (hs : ∀ z, foldedSetIterable (.Name x npos) X.env z = pure z := by intro _; rfl) : DS X (.For tg (.Name x npos) body [] pos) (tDic (iKeys (tVar i)) g tb) (sFor (iKy (eV i)) G F) (sl ++ sl2) :=
  ds_forD hp hc (pi_keys (pe_var hN hv hd hcd)) itD_keys (te := tVar i) (fun σ H R ⟨v, hv, d, o, kvs, e, h, r⟩ => ⟨v, hv, d, o, e, .inl ⟨kvs, h, r⟩⟩) ev_vt hg hb hs
theorem ds_forItems {elts : List Expr} {kk : Nat} (i : Nat) (hp : PassesOwn (model X.prog X.w) X.A X.env X.xe) (hc : X.calm = true) (hg : DG X (.Tuple elts kk tpos) g G sl) (hb : DSs X body tb F sl2)
    (hN : X.N[i]? = some x := by rfl) (hv : Vis X.env.scope x := by first | exact Or.inl rfl | exact Or.inr (Or.inl rfl) | exact Or.inr (Or.inr rfl)) (hd : (x == ("__debug__" : Str)) = false := by decide) (hcd : (x == ("__classdict__" : Str)) = false := by decide)
    (hbase : attributeBase (.Name x npos) "items" X.env (eval (.Name x npos) X.env) = eval (.Name x npos) X.env := by rfl) (hline : (apos.endLine == cpos.line) = true := by rfl)
    (hs : ∀ z, foldedSetIterable (.Call (.Attribute (.Name x npos) "items" apos) [] [] cpos) X.env z = pure z := by intro _; rfl) : DS X (.For (.Tuple elts kk tpos) (.Call (.Attribute (.Name x npos) "items" apos) [] [] cpos) body [] pos) (tDic (iItems (tVar i)) g tb) (sFor (iIts (eV i)) G F) (sl ++ sl2) :=
  ds_forD hp hc (pi_items (pe_var hN hv hd hcd) hbase hline) itD_items (te := tVar i) (fun σ H R ⟨v, hv, d, o, kvs, e, h, r⟩ => ⟨v, hv, d, o, kvs, e, h, r⟩) ev_vt hg hb hs
theorem ds_forVals (i : Nat) (hp : PassesOwn (model X.prog X.w) X.A X.env X.xe) (hc : X.calm = true) (hg : DG X tg g G sl) (hb : DSs X body tb F sl2)
    (hN : X.N[i]? = some x := by rfl) (hv : Vis X.env.scope x := by first | exact Or.inl rfl | exact Or.inr (Or.inl rfl) | exact Or.inr (Or.inr rfl)) (hd : (x == ("__debug__" : Str)) = false := by decide) (hcd : (x == ("__classdict__" : Str)) = false := by decide)
    (hbase : attributeBase (.Name x npos) "values" X.env (eval (.Name x npos) X.env) = eval (.Name x npos) X.env := by rfl) (hline : (apos.endLine == cpos.line) = true := by rfl)
    (hs : ∀ z, foldedSetIterable (.Call (.Attribute (.Name x npos) "values" apos) [] [] cpos) X.env z = pure z := by intro _; rfl) : DS X (.For tg (.Call (.Attribute (.Name x npos) "values" apos) [] [] cpos) body [] pos) (tDic (iVals (tVar i)) g tb) (sFor (iVls (eV i)) G F) (sl ++ sl2) :=
  ds_forD hp hc (pi_values (pe_var hN hv hd hcd) hbase hline) itD_vals (te := tVar i) (fun σ H R ⟨v, hv, d, o, kvs, e, h, r⟩ => ⟨v, hv, d, o, kvs, e, h, r⟩) ev_vt hg hb hs
end
end DL

set_option Elab.async false
set_option linter.all false
set_option maxRecDepth 100000
set_option maxHeartbeats 1000000
/-! More statements at places: extend, reverse, stores of values that change what stands; walks of comprehensions over dicts. -/
namespace DL
open PySem PySem.Spec PyProof.Rows L2
section
variable {X : Cx} {e o k : Expr} {te to tk : TE} {f fk : EF} {fo : PF} {i : Nat} {pos cpos apos ipos tpos : Pos}
/-- p.extend(e), e an own list -/
def sExtP (i : Nat) (fo : PF) (f : EF) : SF := fun env => (fo env).bind fun r => (atP r.2 i r.1).bind fun t0 => match unb t0 with
  | .lst _ => (f r.2).bind fun s => match s.1 with
    | .lst us2 => (atP s.2 i r.1).bind fun t => match unb t with
      | .lst us => if us.length + us2.length < 16000000 then some (.nx, putP s.2 i r.1 (reb t (.lst (us ++ us2)))) else none
      | _ => none
    | _ => none
  | _ => none
theorem ds_extP (ho : DP X o to i fo) (h : DT X e te f) (hb : attributeBase o "extend" X.env (eval o X.env) = eval o X.env := by rfl)
    (hse : starEach [e] X.env = (false, eval e X.env) :: starEach [] X.env := by rfl)
    (hfew : ((backTo cpos (starEach [e] X.env)).all (fun x => !x.1) && (backToKw cpos (keywordEach [] X.env)).all (fun x => x.1.isSome)
      && decide ([e].length + ([] : List Keyword).length + (if ([] : List Keyword).isEmpty then 0 else 1) < 30)) = true := by rfl)
    (hline : (apos.endLine == cpos.line) = true := by rfl)
    (hs : swapsWith (.Call (.Attribute o "extend" apos) [e] [] cpos) none pos.line X.env = pure false := by rfl) :
    DS X (.Expr (.Call (.Attribute o "extend" apos) [e] [] cpos) pos) (tDrop (tBM X.K "list" rExtend to (tCons te tNil))) (sExtP i fo f) [] := by
  refine ⟨ps_expr (pe_bm PySem.F.plainAttrs_list PySem.F.slot_list_extend PySem.F.type_list_extend mt_extend ho.pe (pa_cons h.pe pa_nil hse) hb hfew hline hse rfl) hs, ?_⟩
  intro G0 H0 H ts vs env σ fl env' S g D q
  obtain ⟨⟨P, e1⟩, g1, g2⟩ := obind g
  obtain ⟨t0, g3, g4⟩ := obind g2
  dsimp only at g4
  split at g4
  · rename_i us0 hu0
    obtain ⟨⟨y, e2⟩, g5, g6⟩ := obind g4
    obtain ⟨us2, rfl⟩ : ∃ us2, y = .lst us2 := by
      cases y with
      | lst u => exact ⟨u, rfl⟩
      | _ => cases g6
    · obtain ⟨t, g7, g8⟩ := obind (show (atP e2 i P).bind _ = _ from g6)
      dsimp only at g8
      split at g8
      · rename_i us hu
        split at g8
        · rename_i hl
          cases g8
          refine ho.ok _ _ _ _ _ _ _ _ _ _ S g1 _ fun v w H1 s1 S1 hv hc => ?_
          obtain ⟨tt0, k1, k2⟩ := atP_eq g3
          obtain ⟨G, o1, r, sG⟩ := S1.at' k1 k2 hv hc
          have r := r.unb
          rw [hu0] at r
          obtain ⟨a, xs0, o', h1, h2, _⟩ := r
          subst h1
          refine ⟨.inl ⟨rfl, xs0, .inl (.inl h2)⟩, ?_⟩
          refine h.ok _ _ _ _ _ _ _ _ _ _ S1 g5 _ fun x H2 s2 S2 => ?_
          obtain ⟨tt, k3, k4⟩ := atP_eq g7
          obtain ⟨G2, p1, p2, r1, r2, nd, sG2, fr, wr⟩ := OkS.wr (es := [.lst us2]) (ws := [x]) S2 rfl k3 k4 hv (hc.same s2)
          have ru := r1.unb
          rw [hu] at ru
          obtain ⟨a', xs, o2, h1', h2', h3', h4'⟩ := ru
          cases h1'
          subst h4'
          obtain ⟨x', r', q1, q2, q3, q4, q5, q6⟩ := r2
          cases q3
          obtain ⟨e7, e8⟩ := q5
          cases e7
          subst e8
          rw [List.append_nil] at q6
          subst q6
          obtain ⟨b, zs, o3, f1, f2, f3, f4⟩ := q4
          subst f1; subst f4
          have nd' : (a :: (o2 ++ b :: o3)).Nodup := nd
          have na : a ∉ o2 ++ b :: o3 := (List.nodup_cons.mp nd').1
          refine ⟨a, b, xs, zs, rfl, rfl, h2', f2, by rw [h3'.len, f3.len, sizeLine_eq]; omega, ?_⟩
          have r3 := (h3'.append f3).mono (Same.refl G2) (H' := upd H2 a (.lst (xs ++ zs))) _ (wN fun hm => na (by
            rcases List.mem_append.mp hm with hm | hm
            · simp [hm]
            · simp [hm]))
          have S3 := wr a (.lst (xs ++ zs)) (reb t (.lst (us ++ us2))) [] [] (a :: (o2 ++ o3)) [] [b] (by simp) (r1.reb ⟨a, _, _, rfl, upd_same, r3, rfl⟩) ⟨rfl, rfl⟩ (by
            refine List.perm_iff_count.mpr fun x => ?_
            simp only [List.count_append, List.count_cons, List.count_nil]; omega)
          rw [← putP_eq k3] at S3
          exact q _ _ S3 .rfl'
        · cases g8
      · cases g8
  · cases g4
/-- p.reverse() -/
def sRevP (i : Nat) (fo : PF) : SF := fun env => (fo env).bind fun r => (atP r.2 i r.1).bind fun t => match unb t with
  | .lst us => some (.nx, putP r.2 i r.1 (reb t (.lst us.reverse)))
  | _ => none
theorem RpTs.reverse {K : PySem.W.Frag} {G H : Hp} : ∀ {ts : List T} {vs : List V} {o : List Addr}, RpTs K G H ts vs o → ∃ o', RpTs K G H ts.reverse vs.reverse o' ∧ o'.Perm o
  | [], _, _, h => ⟨[], by rw [h.1]; exact ⟨rfl, rfl⟩, by rw [h.2]⟩
  | t :: ts, _, _, ⟨v, r, o1, o2, h1, h2, h3, h4⟩ => by
    subst h1
    obtain ⟨o', f1, f2⟩ := RpTs.reverse h3
    refine ⟨o' ++ (o1 ++ []), ?_, ?_⟩
    · rw [List.reverse_cons, List.reverse_cons]
      exact f1.append ⟨v, [], o1, [], rfl, h2, ⟨rfl, rfl⟩, rfl⟩
    · rw [h4, List.append_nil]
      exact (List.Perm.append_right _ f2).trans List.perm_append_comm
theorem pe_revM (he : PE X o to) (hb : attributeBase o "reverse" X.env (eval o X.env) = eval o X.env) (hline : (apos.endLine == cpos.line) = true) : PE X (.Call (.Attribute o "reverse" apos) [] [] cpos) (fun σ H Q => to σ H fun x H1 => ∃ l xs, x = .ref l ∧ H1 l = some (.lst xs) ∧ Q .non (upd H1 l (.lst xs.reverse))) := by
  refine ⟨fun pins s σ H Q I h => ?_⟩
  refine wpAny_Call_method0_late hb hline (thn (he.run pins s σ H _ I h) fun v s1 ⟨x, H1, I1, r1, l, xs, e1, e2, q1⟩ => ?_)
  obtain ⟨h1, h2⟩ := tyV_is I1 r1 (T := "list") (by rw [e1]; exact .inl ⟨rfl, xs, .inl (.inl e2)⟩)
  exact ⟨"list", "list.reverse", PySem.F.plainAttrs_list, PySem.F.slot_list_reverse, PySem.F.type_list_reverse, h1, h2, Calls.callWith_builtin rfl (PySem.evalArgs_none (mt_reverse pins s1 σ H1 x [] v [] Q I1 r1 .nil ⟨l, xs, e1, rfl, e2, q1⟩))⟩
theorem ds_revP (ho : DP X o to i fo) (hb : attributeBase o "reverse" X.env (eval o X.env) = eval o X.env := by rfl) (hline : (apos.endLine == cpos.line) = true := by rfl)
    (hs : swapsWith (.Call (.Attribute o "reverse" apos) [] [] cpos) none pos.line X.env = pure false := by rfl) : DS X (.Expr (.Call (.Attribute o "reverse" apos) [] [] cpos) pos) (tDrop fun σ H Q => to σ H fun x H1 => ∃ l xs, x = .ref l ∧ H1 l = some (.lst xs) ∧ Q .non (upd H1 l (.lst xs.reverse))) (sRevP i fo) [] := by
  refine ⟨ps_expr (pe_revM ho.pe hb hline) hs, ?_⟩
  intro G0 H0 H ts vs env σ fl env' S g D q
  obtain ⟨⟨P, e1⟩, g1, g2⟩ := obind g
  obtain ⟨t, g3, g4⟩ := obind g2
  dsimp only at g4
  split at g4
  · rename_i us hu
    cases g4
    refine ho.ok _ _ _ _ _ _ _ _ _ _ S g1 _ fun v w H1 s1 S1 hv hc => ?_
    obtain ⟨tt, k3, k4⟩ := atP_eq g3
    obtain ⟨G2, p1, p2, r1, r2, nd, sG2, fr, wr⟩ := OkS.wr (es := []) (ws := []) S1 rfl k3 k4 hv hc
    have ru := r1.unb
    rw [hu] at ru
    obtain ⟨a, xs, o2, h1, h2, h3, h4⟩ := ru
    subst h1
    subst h4
    have e2' : p2 = [] := r2.2
    subst e2'
    have na : a ∉ o2 := (List.nodup_cons.mp (show (a :: (o2 ++ [])).Nodup from nd)).1 |> fun h hm => h (by simp [hm])
    refine ⟨a, xs, rfl, h2, ?_⟩
    obtain ⟨o4, f1, f2⟩ := (h3.mono (Same.refl G2) (H' := upd H1 a (.lst xs.reverse)) _ (wN na)).reverse
    have S3 := wr a (.lst xs.reverse) (reb t (.lst us.reverse)) [] [] (a :: o4) [] [] (by simp) (r1.reb ⟨a, _, _, rfl, upd_same, f1, rfl⟩) ⟨rfl, rfl⟩ (by
      simp only [List.cons_append, List.append_nil]
      exact List.Perm.cons a f2.symm)
    rw [← putP_eq k3] at S3
    exact q _ _ S3 .rfl'
  · cases g4
/-- p[k] = e, e one that changes what stands -/
theorem ds_putPX (hu : X.A.units + 1 < cLine) (ho : DP X o to i fo) (hk : DT X k tk fk) (h : DX X e te f) (hs : swapsWith e (some (.Subscript o k ipos)) pos.line X.env = pure false := by rfl) : DS X (.Assign [.Subscript o k ipos] e pos) (sDPut to tk te) (sPutP i fo fk f) [] := by
  refine ⟨ps_dput hu ho.pe hk.pe h.pe hs, ?_⟩
  intro G0 H0 H ts vs env σ fl env' S g D q
  obtain ⟨⟨y, e1⟩, g1, g2⟩ := obind g
  obtain ⟨⟨P, e2⟩, g3, g4⟩ := obind g2
  obtain ⟨⟨z, e3⟩, g5, g6⟩ := obind g4
  obtain ⟨kk, g7, g8⟩ := obind g6
  obtain ⟨t, g9, g10⟩ := obind g8
  dsimp only at g10
  split at g10
  · rename_i kvs hun
    split at g10
    · rename_i hl
      cases g10
      cases z with
      | p kd =>
        refine h.ok _ _ _ _ _ _ _ _ _ S g1 _ fun x H1 S1 => ?_
        refine ho.ok _ _ _ _ _ _ _ _ _ _ S1 g3 _ fun v w H2 s2 S2 hv hc => ?_
        refine hk.ok _ _ _ _ _ _ _ _ _ _ S2 g5 _ fun kx H3 s3 S3 => ?_
        have ek : kx = L2.kV kk := keyD_rp (show keyD kd = some kk from g7) S3.top
        obtain ⟨tt, k3, k4⟩ := atP_eq g9
        obtain ⟨G2, p1, p2, r1, r2, nd, sG2, fr, wr⟩ := OkS.wr (es := [y]) (ws := [x]) S3.pop rfl k3 k4 hv (hc.same s3)
        have ru := r1.unb
        rw [hun] at ru
        obtain ⟨a, xs, o2, h1, h2, h3, h4⟩ := ru
        subst h1; subst h4
        have na : a ∉ o2 ++ p2 := (List.nodup_cons.mp (show (a :: (o2 ++ p2)).Nodup from nd)).1
        refine ⟨a, _, rfl, by rw [ek]; exact DPut.k h2 (by rw [h3.len, sizeLine_eq]; omega), ?_⟩
        obtain ⟨x', r', q1, q2, q3, q4, q5, q6⟩ := r2
        cases q3
        obtain ⟨e7, e8⟩ := q5
        cases e7
        subst e8
        rw [List.append_nil] at q6
        subst q6
        have m1 := h3.mono (Same.refl G2) (H' := upd H3 a (.dK (putK xs kk x))) _ (wN fun hm => na (by simp [hm]))
        have m2 := q4.mono (Same.refl G2) (H' := upd H3 a (.dK (putK xs kk x))) _ (wN fun hm => na (by simp [hm]))
        obtain ⟨o5, rest, f1, f2⟩ := m1.put m2 hl.2
        have S4 := wr a (.dK (putK xs kk x)) (reb t (.dic (putT kvs kk y))) [] [] (a :: o5) [] rest (by simp) (r1.reb ⟨a, _, _, rfl, upd_same, f1, rfl⟩) ⟨rfl, rfl⟩ (by
          simp only [List.cons_append, List.append_nil]
          exact List.Perm.cons a f2)
        rw [← putP_eq k3] at S4
        exact q _ _ S4 .rfl'
      | _ => cases g7
    · cases g10
  · cases g10
/-- x.append(e), e one that changes what stands -/
theorem ds_appX (ho : DP X o to i (pNm i)) (h : DX X e te f) (hb : attributeBase o "append" X.env (eval o X.env) = eval o X.env := by rfl)
    (hse : starEach [e] X.env = (false, eval e X.env) :: starEach [] X.env := by rfl)
    (hfew : ((backTo cpos (starEach [e] X.env)).all (fun x => !x.1) && (backToKw cpos (keywordEach [] X.env)).all (fun x => x.1.isSome)
      && decide ([e].length + ([] : List Keyword).length + (if ([] : List Keyword).isEmpty then 0 else 1) < 30)) = true := by rfl)
    (hline : (apos.endLine == cpos.line) = true := by rfl)
    (hs : swapsWith (.Call (.Attribute o "append" apos) [e] [] cpos) none pos.line X.env = pure false := by rfl) :
    DS X (.Expr (.Call (.Attribute o "append" apos) [e] [] cpos) pos) (tDrop (tBM X.K "list" rAppend to (tCons te tNil))) (sAppP i (pNm i) f) [] := by
  refine ⟨ps_expr (pe_bm PySem.F.plainAttrs_list PySem.F.slot_list_append PySem.F.type_list_append mt_append ho.pe (pa_cons h.pe pa_nil hse) hb hfew hline hse rfl) hs, ?_⟩
  intro G0 H0 H ts vs env σ fl env' S g D q
  obtain ⟨⟨P, e1⟩, g1, g2⟩ := obind g
  have hP : P = [] := by
    unfold pNm at g1
    split at g1
    · cases g1; rfl
    · cases g1
  subst hP
  obtain ⟨t0, g3, g4⟩ := obind g2
  dsimp only at g4
  split at g4
  · rename_i us0 hu0
    obtain ⟨⟨y, e2⟩, g5, g6⟩ := obind g4
    obtain ⟨t, g7, g8⟩ := obind g6
    dsimp only at g8
    split at g8
    · rename_i us hu
      split at g8
      · rename_i hl
        cases g8
        refine ho.ok _ _ _ _ _ _ _ _ _ _ S g1 _ fun v w H1 s1 S1 hv hc => ?_
        obtain ⟨tt0, k1, k2⟩ := atP_eq g3
        obtain ⟨G, o1, r, sG⟩ := S1.at' k1 k2 hv hc
        have r := r.unb
        rw [hu0] at r
        obtain ⟨a, xs0, o', h1, h2, _⟩ := r
        subst h1
        refine ⟨.inl ⟨rfl, xs0, .inl (.inl h2)⟩, ?_⟩
        refine h.ok _ _ _ _ _ _ _ _ _ S1 g5 _ fun x H2 S2 => ?_
        obtain ⟨tt, k3, k4⟩ := atP_eq g7
        obtain ⟨G2, p1, p2, r1, r2, nd, sG2, fr, wr⟩ := OkS.wr (es := [y]) (ws := [x]) S2 rfl k3 k4 hv (show Ch H2 [] v (.ref a) from hc)
        have ru := r1.unb
        rw [hu] at ru
        obtain ⟨a', xs, o2, h1', h2', h3', h4'⟩ := ru
        cases h1'
        subst h4'
        have nd' : (a :: (o2 ++ p2)).Nodup := nd
        have na : a ∉ o2 ++ p2 := (List.nodup_cons.mp nd').1
        refine ⟨a, xs, x, rfl, rfl, h2', by rw [h3'.len, sizeLine_eq]; omega, ?_⟩
        have r3 := (h3'.append r2).mono (Same.refl G2) (H' := upd H2 a (.lst (xs ++ [x]))) _ (wN na)
        have S3 := wr a (.lst (xs ++ [x])) (reb t (.lst (us ++ [y]))) [] [] (a :: (o2 ++ p2)) [] [] (by simp) (r1.reb ⟨a, _, _, rfl, upd_same, r3, rfl⟩) ⟨rfl, rfl⟩ (by simp)
        rw [← putP_eq k3] at S3
        exact q _ _ S3 .rfl'
      · cases g8
    · cases g8
  · cases g4
end
end DL

set_option Elab.async false
set_option linter.all false
set_option maxRecDepth 100000
/-! The combinators of places once more without binders. -/
namespace DL
open PySem PySem.Spec PyProof.Rows L2
variable {env e : Env} {i j n k : Nat} {t u : T} {ts us : List T} {d a b : D} {ds es : List D} {fa fb fc f fk fx : EF} {r : AF} {F1 F2 F : SF} {G : GF} {z w : Int} {P : List Stp} {fo : PF} {ky : Key} {kvs : List (Key × T)} {nm fn : Str} {fs : List (Str × T)} {ad : Addr} {kd : List (Key × D)}
-- places of names
def kPN (env : Env) : Option (Option T) → Option (List Stp × Env)
  | some (some _) => some ([], env)
  | _ => none
theorem pNm_q : pNm i env = kPN env env[i]? := id rfl
theorem kPN_s : kPN env (some (some t)) = some ([], env) := id rfl
-- reading and writing a place
theorem unb_l : unb (.lst ts) = .lst ts := id rfl
theorem unb_d : unb (.dic kvs) = .dic kvs := id rfl
theorem unb_o : unb (.obj nm fs) = .obj nm fs := id rfl
theorem unb_t : unb (.tup ts) = .tup ts := id rfl
theorem unb_p : unb (.p d) = .p d := id rfl
theorem unb_b : unb (.box ad t) = t := id rfl
theorem reb_l : reb (.lst ts) u = u := id rfl
theorem reb_d : reb (.dic kvs) u = u := id rfl
theorem reb_o : reb (.obj nm fs) u = u := id rfl
theorem reb_t : reb (.tup ts) u = u := id rfl
theorem reb_p : reb (.p d) u = u := id rfl
theorem reb_b : reb (.box ad t) u = .box ad u := id rfl
def kAtP (P : List Stp) : Option (Option T) → Option T
  | some (some t) => getP P t
  | _ => none
theorem atP_q : atP env i P = kAtP P env[i]? := id rfl
theorem kAtP_s : kAtP P (some (some t)) = getP P t := id rfl
theorem getP_n : getP [] t = some t := id rfl
theorem getP_c {s : Stp} : getP (s :: P) t = (stepT s (unb t)).bind (getP P) := id rfl
theorem stepT_k : stepT (.key ky) (.dic kvs) = valT kvs ky := id rfl
theorem stepT_ix : stepT (.ix n) (.lst ts) = ts[n]? := id rfl
theorem stepT_it : stepT (.it n) (.tup ts) = ts[n]? := id rfl
theorem stepT_f : stepT (.fld fn) (.obj nm fs) = valT fs fn := id rfl
def kPutP (env : Env) (i : Nat) (P : List Stp) (u : T) : Option (Option T) → Env
  | some (some t) => env.set i (some (setP P t u))
  | _ => env
theorem putP_q : putP env i P u = kPutP env i P u env[i]? := id rfl
theorem kPutP_s : kPutP env i P u (some (some t)) = env.set i (some (setP P t u)) := id rfl
def kSP (s : Stp) (P : List Stp) (t u : T) : Option T → T
  | some c => reb t (setS s (unb t) (setP P c u))
  | none => t
theorem setP_n : setP [] t u = u := id rfl
theorem setP_c {s : Stp} : setP (s :: P) t u = kSP s P t u (stepT s (unb t)) := id rfl
theorem kSP_s {s : Stp} {c : T} : kSP s P t u (some c) = reb t (setS s (unb t) (setP P c u)) := id rfl
theorem setS_k : setS (.key ky) (.dic kvs) u = .dic (setT kvs ky u) := id rfl
theorem setS_ix : setS (.ix n) (.lst ts) u = .lst (ts.set n u) := id rfl
theorem setS_it : setS (.it n) (.tup ts) u = .tup (ts.set n u) := id rfl
theorem setS_f : setS (.fld fn) (.obj nm fs) u = .obj nm (setT fs fn u) := id rfl
-- o.f, o[k], o[n] as places
def kPF3 (P : List Stp) (f : Str) (e : Env) (_ : T) : List Stp × Env := (P ++ [.fld f], e)
theorem kPF3_q : kPF3 P fn e t = (P ++ [.fld fn], e) := id rfl
def kPF2 (n f : Str) (P : List Stp) (e : Env) (t : T) : Option (List Stp × Env) := match unb t with
  | .obj m fs => if m = n then (valT fs f).map (kPF3 P f e) else none
  | _ => none
def kPF1 (n f : Str) (i : Nat) (r : List Stp × Env) : Option (List Stp × Env) := (atP r.2 i r.1).bind (kPF2 n f r.1 r.2)
theorem pFld_q : pFld nm fn i fo env = (fo env).bind (kPF1 nm fn i) := id rfl
theorem kPF1_q : kPF1 nm fn i (P, e) = (atP e i P).bind (kPF2 nm fn P e) := id rfl
theorem kPF2_o : kPF2 nm fn P e (.obj nm fs) = (valT fs fn).map (kPF3 P fn e) := if_pos rfl
theorem kPF2_b : kPF2 nm fn P e (.box ad (.obj nm fs)) = (valT fs fn).map (kPF3 P fn e) := if_pos rfl
def kPK4 (P : List Stp) (e : Env) (k : Key) (_ : T) : List Stp × Env := (P ++ [.key k], e)
theorem kPK4_q : kPK4 P e ky t = (P ++ [.key ky], e) := id rfl
def kPK3 (P : List Stp) (e : Env) (k : Key) (t : T) : Option (List Stp × Env) := match unb t with
  | .dic kvs => (valT kvs k).map (kPK4 P e k)
  | _ => none
def kPK2 (i : Nat) (P : List Stp) (e : Env) (k : Key) : Option (List Stp × Env) := (atP e i P).bind (kPK3 P e k)
def kPK1 (i : Nat) (P : List Stp) (s : T × Env) : Option (List Stp × Env) := (keyT s.1).bind (kPK2 i P s.2)
def kPK0 (i : Nat) (fk : EF) (r : List Stp × Env) : Option (List Stp × Env) := (fk r.2).bind (kPK1 i r.1)
theorem pKey_q : pKey i fo fk env = (fo env).bind (kPK0 i fk) := id rfl
theorem kPK0_q : kPK0 i fk (P, e) = (fk e).bind (kPK1 i P) := id rfl
theorem kPK1_q : kPK1 i P (t, e) = (keyT t).bind (kPK2 i P e) := id rfl
theorem kPK2_q : kPK2 i P e ky = (atP e i P).bind (kPK3 P e ky) := id rfl
theorem kPK3_d : kPK3 P e ky (.dic kvs) = (valT kvs ky).map (kPK4 P e ky) := id rfl
theorem kPK3_b : kPK3 P e ky (.box ad (.dic kvs)) = (valT kvs ky).map (kPK4 P e ky) := id rfl
def kPI5 (s : Stp) (P : List Stp) (e : Env) (_ : T) : List Stp × Env := (P ++ [s], e)
theorem kPI5_q {s : Stp} : kPI5 s P e t = (P ++ [s], e) := id rfl
def kPI4 (tp : Bool) (P : List Stp) (e : Env) (ts : List T) (j : Nat) : Option (List Stp × Env) := (ts[j]?).map (kPI5 (if tp then .it j else .ix j) P e)
theorem kPI4_t : kPI4 true P e ts j = (ts[j]?).map (kPI5 (.it j) P e) := id rfl
theorem kPI4_l : kPI4 false P e ts j = (ts[j]?).map (kPI5 (.ix j) P e) := id rfl
def kPI3 (P : List Stp) (e : Env) (z : Int) (t : T) : Option (List Stp × Env) := match unb t with
  | .lst ts => (ixN ts.length z).bind (kPI4 false P e ts)
  | .tup ts => (ixN ts.length z).bind (kPI4 true P e ts)
  | _ => none
def kPI2 (i : Nat) (P : List Stp) (s : T × Env) : Option (List Stp × Env) := match s.1 with
  | .p (.int z) => (atP s.2 i P).bind (kPI3 P s.2 z)
  | _ => none
def kPI1 (i : Nat) (fk : EF) (r : List Stp × Env) : Option (List Stp × Env) := (fk r.2).bind (kPI2 i r.1)
theorem pIx_q : pIx i fo fk env = (fo env).bind (kPI1 i fk) := id rfl
theorem kPI1_q : kPI1 i fk (P, e) = (fk e).bind (kPI2 i P) := id rfl
theorem kPI2_q : kPI2 i P (.p (.int z), e) = (atP e i P).bind (kPI3 P e z) := id rfl
theorem kPI3_l : kPI3 P e z (.lst ts) = (ixN ts.length z).bind (kPI4 false P e ts) := id rfl
theorem kPI3_t : kPI3 P e z (.tup ts) = (ixN ts.length z).bind (kPI4 true P e ts) := id rfl
-- views
def kFl (n f : Str) (r : T × Env) : Option (T × Env) := (valF n f (unb r.1)).map (kT2 r.2)
theorem eFl_q : eFl nm fn f env = (f env).bind (kFl nm fn) := id rfl
theorem kFl_q : kFl nm fn (t, e) = (valF nm fn (unb t)).map (kT2 e) := id rfl
theorem valF_o : valF nm fn (.obj nm fs) = valT fs fn := if_pos rfl
def kDk3 (t : T) (e : Env) (k : Key) : Option (T × Env) := (valK k (unb t)).map (kT2 e)
def kDk2 (t : T) (s : T × Env) : Option (T × Env) := (keyT s.1).bind (kDk3 t s.2)
def kDk1 (fk : EF) (r : T × Env) : Option (T × Env) := (fk r.2).bind (kDk2 r.1)
theorem eDk_q : eDk f fk env = (f env).bind (kDk1 fk) := id rfl
theorem kDk1_q : kDk1 fk (t, e) = (fk e).bind (kDk2 t) := id rfl
theorem kDk2_q : kDk2 t (u, e) = (keyT u).bind (kDk3 t e) := id rfl
theorem kDk3_q : kDk3 t e ky = (valK ky (unb t)).map (kT2 e) := id rfl
theorem valK_d : valK ky (.dic kvs) = valT kvs ky := id rfl
theorem valK_p : valK ky (.p (.dic kd)) = (valD kd ky).map T.p := id rfl
-- stores
def kAp4 (i : Nat) (P : List Stp) (x : T) (e : Env) (t : T) : Option (Fl × Env) := match unb t with
  | .lst us => if us.length < 16000000 then some (.nx, putP e i P (reb t (.lst (us ++ [x])))) else none
  | _ => none
def kAp3 (i : Nat) (P : List Stp) (s : T × Env) : Option (Fl × Env) := (atP s.2 i P).bind (kAp4 i P s.1 s.2)
def kAp2 (i : Nat) (f : EF) (P : List Stp) (e : Env) (t : T) : Option (Fl × Env) := match unb t with
  | .lst _ => (f e).bind (kAp3 i P)
  | _ => none
def kAp1 (i : Nat) (f : EF) (r : List Stp × Env) : Option (Fl × Env) := (atP r.2 i r.1).bind (kAp2 i f r.1 r.2)
theorem sAppP_q : sAppP i fo f env = (fo env).bind (kAp1 i f) := by
  unfold sAppP; congr 1
theorem kAp1_q : kAp1 i f (P, e) = (atP e i P).bind (kAp2 i f P e) := id rfl
theorem kAp2_l : kAp2 i f P e (.lst us) = (f e).bind (kAp3 i P) := id rfl
theorem kAp2_b : kAp2 i f P e (.box ad (.lst us)) = (f e).bind (kAp3 i P) := id rfl
theorem kAp3_q : kAp3 i P (t, e) = (atP e i P).bind (kAp4 i P t e) := id rfl
theorem kAp4_l : kAp4 i P t e (.lst us) = if us.length < 16000000 then some (.nx, putP e i P (.lst (us ++ [t]))) else none := id rfl
theorem kAp4_b : kAp4 i P t e (.box ad (.lst us)) = if us.length < 16000000 then some (.nx, putP e i P (.box ad (.lst (us ++ [t])))) else none := id rfl
def kEx4 (i : Nat) (P : List Stp) (us2 : List T) (e : Env) (t : T) : Option (Fl × Env) := match unb t with
  | .lst us => if us.length + us2.length < 16000000 then some (.nx, putP e i P (reb t (.lst (us ++ us2)))) else none
  | _ => none
def kEx3 (i : Nat) (P : List Stp) (s : T × Env) : Option (Fl × Env) := match s.1 with
  | .lst us2 => (atP s.2 i P).bind (kEx4 i P us2 s.2)
  | _ => none
def kEx2 (i : Nat) (f : EF) (P : List Stp) (e : Env) (t : T) : Option (Fl × Env) := match unb t with
  | .lst _ => (f e).bind (kEx3 i P)
  | _ => none
def kEx1 (i : Nat) (f : EF) (r : List Stp × Env) : Option (Fl × Env) := (atP r.2 i r.1).bind (kEx2 i f r.1 r.2)
theorem sExtP_q : sExtP i fo f env = (fo env).bind (kEx1 i f) := by
  unfold sExtP; congr 1
theorem kEx1_q : kEx1 i f (P, e) = (atP e i P).bind (kEx2 i f P e) := id rfl
theorem kEx2_l : kEx2 i f P e (.lst us) = (f e).bind (kEx3 i P) := id rfl
theorem kEx3_q : kEx3 i P (.lst ts, e) = (atP e i P).bind (kEx4 i P ts e) := id rfl
theorem kEx4_l : kEx4 i P ts e (.lst us) = if us.length + ts.length < 16000000 then some (.nx, putP e i P (.lst (us ++ ts))) else none := id rfl
def kRv2 (i : Nat) (P : List Stp) (e : Env) (t : T) : Option (Fl × Env) := match unb t with
  | .lst us => some (.nx, putP e i P (reb t (.lst us.reverse)))
  | _ => none
def kRv1 (i : Nat) (r : List Stp × Env) : Option (Fl × Env) := (atP r.2 i r.1).bind (kRv2 i r.1 r.2)
theorem sRevP_q : sRevP i fo env = (fo env).bind (kRv1 i) := by
  unfold sRevP; congr 1
theorem kRv1_q : kRv1 i (P, e) = (atP e i P).bind (kRv2 i P e) := id rfl
theorem kRv2_l : kRv2 i P e (.lst us) = some (.nx, putP e i P (.lst us.reverse)) := id rfl
def kPp5 (i : Nat) (x : T) (P : List Stp) (e : Env) (k : Key) (t : T) : Option (Fl × Env) := match unb t with
  | .dic kvs => if kvs.length < 16000000 ∧ okPut kvs k x = true then some (.nx, putP e i P (reb t (.dic (putT kvs k x)))) else none
  | _ => none
def kPp4 (i : Nat) (x : T) (P : List Stp) (e : Env) (k : Key) : Option (Fl × Env) := (atP e i P).bind (kPp5 i x P e k)
def kPp3 (i : Nat) (x : T) (P : List Stp) (s : T × Env) : Option (Fl × Env) := (keyT s.1).bind (kPp4 i x P s.2)
def kPp2 (i : Nat) (fk : EF) (x : T) (p : List Stp × Env) : Option (Fl × Env) := (fk p.2).bind (kPp3 i x p.1)
def kPp1 (i : Nat) (fo : PF) (fk : EF) (r : T × Env) : Option (Fl × Env) := (fo r.2).bind (kPp2 i fk r.1)
theorem sPutP_q : sPutP i fo fk f env = (f env).bind (kPp1 i fo fk) := by
  unfold sPutP; congr 1
theorem kPp1_q : kPp1 i fo fk (t, e) = (fo e).bind (kPp2 i fk t) := id rfl
theorem kPp2_q : kPp2 i fk t (P, e) = (fk e).bind (kPp3 i t P) := id rfl
theorem kPp3_q : kPp3 i t P (u, e) = (keyT u).bind (kPp4 i t P e) := id rfl
theorem kPp4_q : kPp4 i t P e ky = (atP e i P).bind (kPp5 i t P e ky) := id rfl
theorem kPp5_d : kPp5 i t P e ky (.dic kvs) = if kvs.length < 16000000 ∧ okPut kvs ky t = true then some (.nx, putP e i P (.dic (putT kvs ky t))) else none := id rfl
theorem kPp5_b : kPp5 i t P e ky (.box ad (.dic kvs)) = if kvs.length < 16000000 ∧ okPut kvs ky t = true then some (.nx, putP e i P (.box ad (.dic (putT kvs ky t)))) else none := id rfl
def kFp3 (i : Nat) (n a : Str) (x : T) (P : List Stp) (e : Env) (t : T) : Option (Fl × Env) := match unb t with
  | .obj m fs => if m = n ∧ fs.length < 900 then some (.nx, putP e i P (reb t (.obj m (putFT fs a x)))) else none
  | _ => none
def kFp2 (i : Nat) (n a : Str) (x : T) (p : List Stp × Env) : Option (Fl × Env) := (atP p.2 i p.1).bind (kFp3 i n a x p.1 p.2)
def kFp1 (i : Nat) (n a : Str) (fo : PF) (r : T × Env) : Option (Fl × Env) := (fo r.2).bind (kFp2 i n a r.1)
theorem sFldP_q : sFldP nm fn i fo f env = (f env).bind (kFp1 i nm fn fo) := by
  unfold sFldP; congr 1
theorem kFp1_q : kFp1 i nm fn fo (t, e) = (fo e).bind (kFp2 i nm fn t) := id rfl
theorem kFp2_q : kFp2 i nm fn t (P, e) = (atP e i P).bind (kFp3 i nm fn t P e) := id rfl
theorem kFp3_o : kFp3 i nm fn t P e (.obj nm fs) = if fs.length < 900 then some (.nx, putP e i P (.obj nm (putFT fs fn t))) else none := by
  show (if nm = nm ∧ _ then _ else _) = _
  by_cases h : fs.length < 900
  · rw [if_pos ⟨rfl, h⟩, if_pos h]; rfl
  · rw [if_neg (fun x => h x.2), if_neg h]
-- d.pop(k, x)
def kPo7 (i : Nat) (P : List Stp) (x : T) (e : Env) (k : Key) (t : T) (kvs : List (Key × T)) : Option T → T × Env
  | some u => (u, putP e i P (reb t (.dic (dropT kvs k))))
  | none => (x, e)
def kPo6 (i : Nat) (P : List Stp) (x : T) (e : Env) (k : Key) (t : T) : Option (T × Env) := match unb t with
  | .dic kvs => some (kPo7 i P x e k t kvs (valT kvs k))
  | _ => none
def kPo5 (i : Nat) (P : List Stp) (x : T) (e : Env) (k : Key) : Option (T × Env) := (atP e i P).bind (kPo6 i P x e k)
def kPo4 (i : Nat) (P : List Stp) (u : T) (x : T × Env) : Option (T × Env) := (keyT u).bind (kPo5 i P x.1 x.2)
def kPo3 (i : Nat) (fx : EF) (P : List Stp) (s : T × Env) : Option (T × Env) := (fx s.2).bind (kPo4 i P s.1)
def kPo2 (i : Nat) (fk fx : EF) (P : List Stp) (e : Env) (t : T) : Option (T × Env) := match unb t with
  | .dic _ => (fk e).bind (kPo3 i fx P)
  | _ => none
def kPo1 (i : Nat) (fk fx : EF) (r : List Stp × Env) : Option (T × Env) := (atP r.2 i r.1).bind (kPo2 i fk fx r.1 r.2)
theorem ePop_q : ePop i fo fk fx env = (fo env).bind (kPo1 i fk fx) := by
  unfold ePop; congr 1
theorem kPo1_q : kPo1 i fk fx (P, e) = (atP e i P).bind (kPo2 i fk fx P e) := id rfl
theorem kPo2_d : kPo2 i fk fx P e (.dic kvs) = (fk e).bind (kPo3 i fx P) := id rfl
theorem kPo3_q : kPo3 i fx P (t, e) = (fx e).bind (kPo4 i P t) := id rfl
theorem kPo4_q : kPo4 i P u (t, e) = (keyT u).bind (kPo5 i P t e) := id rfl
theorem kPo5_q : kPo5 i P t e ky = (atP e i P).bind (kPo6 i P t e ky) := id rfl
theorem kPo6_d : kPo6 i P t e ky (.dic kvs) = some (kPo7 i P t e ky (.dic kvs) kvs (valT kvs ky)) := id rfl
theorem kPo7_n : kPo7 i P t e ky u kvs none = (t, e) := id rfl
theorem kPo7_d {t' : T} : kPo7 i P t e ky (.dic us') kvs (some t') = (t', putP e i P (.dic (dropT kvs ky))) := id rfl
-- lent things
variable {φ : T → List D → Option (T × T)}
def kCM5 (i : Nat) (P : List Stp) (e : Env) (z : T × T) : T × Env := (z.1, putP e i P z.2)
theorem kCM5_q : kCM5 i P e (t, u) = (t, putP e i P u) := id rfl
def kCM4 (φ : T → List D → Option (T × T)) (i : Nat) (P : List Stp) (e : Env) (ds : List D) (t0 : T) : Option (T × Env) := (φ t0 ds).map (kCM5 i P e)
theorem kCM4_q : kCM4 φ i P e ds t = (φ t ds).map (kCM5 i P e) := id rfl
def kCM3 (φ : T → List D → Option (T × T)) (i : Nat) (P : List Stp) (e : Env) (ds : List D) : Option (T × Env) := (atP e i P).bind (kCM4 φ i P e ds)
theorem kCM3_q : kCM3 φ i P e ds = (atP e i P).bind (kCM4 φ i P e ds) := id rfl
def kCM2 (φ : T → List D → Option (T × T)) (i : Nat) (P : List Stp) (s : List T × Env) : Option (T × Env) := (allP s.1).bind (kCM3 φ i P s.2)
theorem kCM2_q : kCM2 φ i P (ts, e) = (allP ts).bind (kCM3 φ i P e) := id rfl
def kCM1 (φ : T → List D → Option (T × T)) (i : Nat) (fr : AF) (x : List Stp × Env) : Option (T × Env) := (fr x.2).bind (kCM2 φ i x.1)
theorem kCM1_q : kCM1 φ i r (P, e) = (r e).bind (kCM2 φ i P) := id rfl
theorem eCallM_q : eCallM φ i fo r env = (fo env).bind (kCM1 φ i r) := id rfl
def kRM2 (fl : Fl) : Option (Option T) → Option (T × T)
  | some (some t') => match fl with
    | .rt t => some (t, t')
    | .nx => some (.p .non, t')
    | _ => none
  | _ => none
def kRM (r : Fl × Env) : Option (T × T) := kRM2 r.1 r.2[0]?
theorem kRM_q {fl : Fl} : kRM (fl, e) = kRM2 fl e[0]? := id rfl
theorem kRM2_r : kRM2 (.rt t) (some (some u)) = some (t, u) := id rfl
theorem kRM2_n : kRM2 .nx (some (some u)) = some (.p .non, u) := id rfl
theorem runM_q : runM n k F t ds = if ds.length = k then (F (startM n t ds)).bind kRM else none := by
  unfold runM
  by_cases h : ds.length = k
  · rw [if_pos h, if_pos h]; congr 1
  · rw [if_neg h, if_neg h]
theorem startM_q : startM n t ds = some t :: startE (n - 1) ds := id rfl
-- dicts as wholes
def kKl (e : Env) (ks : List Key) : T × Env := (.lst ((ks.map kD).map T.p), e)
theorem kKl_q {ks : List Key} : kKl e ks = (.lst ((ks.map kD).map T.p), e) := id rfl
def kKL (r : T × Env) : Option (T × Env) := (keysT (unb r.1)).map (kKl r.2)
theorem eKeysL_q : eKeysL f env = (f env).bind kKL := id rfl
theorem kKL_q : kKL (t, e) = (keysT (unb t)).map (kKl e) := id rfl
theorem keysT_d : keysT (.dic kvs) = some (kvs.map (·.1)) := id rfl
def kVl (e : Env) (kd : List (Key × D)) : T × Env := (.lst ((kd.map (·.2)).map T.p), e)
theorem kVl_q : kVl e kd = (.lst ((kd.map (·.2)).map T.p), e) := id rfl
def kVL (r : T × Env) : Option (T × Env) := (dicT (unb r.1)).map (kVl r.2)
theorem eValsL_q : eValsL f env = (f env).bind kVL := id rfl
theorem kVL_q : kVL (t, e) = (dicT (unb t)).map (kVl e) := id rfl
def kDC2 (e : Env) (kd : List (Key × D)) : T × Env := (.dic (pairsT kd), e)
theorem kDC2_q : kDC2 e kd = (.dic (pairsT kd), e) := id rfl
def kDC (r : T × Env) : Option (T × Env) := (dicT (unb r.1)).map (kDC2 r.2)
theorem eDictC_q : eDictC f env = (f env).bind kDC := id rfl
theorem kDC_q : kDC (t, e) = (dicT (unb t)).map (kDC2 e) := id rfl
def kDP3 (e : Env) (kd : List (Key × D)) : T × Env := (.dic (pairsT (mergeD [] kd)), e)
theorem kDP3_q : kDP3 e kd = (.dic (pairsT (mergeD [] kd)), e) := id rfl
def kDP2 (t : T) (e : Env) (ds : List D) : Option (T × Env) := if isLT t = true then (pairsD ds).map (kDP3 e) else none
theorem kDP2_q : kDP2 t e ds = if isLT t = true then (pairsD ds).map (kDP3 e) else none := id rfl
def kDP (r : T × Env) : Option (T × Env) := (itemsT r.1).bind (kDP2 r.1 r.2)
theorem eDictP_q : eDictP f env = (f env).bind kDP := id rfl
theorem kDP_q : kDP (t, e) = (itemsT t).bind (kDP2 t e) := id rfl
def kDc (mk : Key × D → D) (r : T × Env) : Option (List D × Env) := match r.1 with
  | .p (.dic kvs) => some (kvs.map mk, r.2)
  | _ => none
theorem iDic_q {mk : Key × D → D} : iDic mk f env = (f env).bind (kDc mk) := id rfl
theorem kDc_q {mk : Key × D → D} : kDc mk (.p (.dic kd), e) = some (kd.map mk, e) := id rfl
theorem kV_dt : kV env i (some (some (.dic kvs))) = some (.p (T.dic kvs).toD, env.set i (some (.p (T.dic kvs).toD))) := id rfl
end DL

set_option Elab.async false
set_option linter.all false
set_option maxRecDepth 100000
set_option maxHeartbeats 4000000
namespace K14
open PySem PySem.Spec PyProof.Rows L2 DL
def F_event_done : SF :=
  (sSeq (sSet 2 (eW (eIx (eB 1) (eC (.int 1)))))
  (sSeq (sSet 3 (eW (eIx (eB 1) (eC (.int 2)))))
  (sSeq (sIf (cT (eCmp eqQ (eIx (eB 1) (eC (.int 0))) (eC (.str (PySem.Str.ofString "late"))))) (sSeq (sSet 4 (ePop 0 (pKey 0 (pNm 0) (eV 2)) (eV 3) (eC (.int 0))))
  (sSeq (sIf (cT (eCmp cGt (eB 4) (eC (.int 0)))) (sPutP 0 (pKey 0 (pNm 0) (eV 2)) (eOp gAdd (eV 3) (eW (eIx (eB 1) (eC (.int 3))))) (eOp gAdd (eDget (eDk (eB 0) (eV 2)) (eOp gAdd (eV 3) (eW (eIx (eB 1) (eC (.int 3))))) (eC (.int 0))) (eV 4))) sNx)
  (sRet (eC (.int 0))))) sNx)
  (sSeq (sSet 4 (eB1 gSum (eValsL (eDk (eB 0) (eV 2)))))
  (sSeq (sPutP 0 (pNm 0) (eV 2) eDn)
  (sSeq (sIf (cT (eCmp eqQ (eIx (eB 1) (eC (.int 0))) (eC (.str (PySem.Str.ofString "quit"))))) (sRet (eM 4)) sNx)
  (sSeq (sIf (cT (eCmp cGt (eB 4) (eC (.int 0)))) (sPutP 0 (pKey 0 (pNm 0) (eV 2)) (eV 3) (eV 4)) sNx)
  (sRet (eC (.int 0))))))))))
def phi_event_done : T → List D → Option (T × T) := runM 5 1 F_event_done
def B_one_day_1 : SF :=
  (sIf (cT (eCmp eqQ (eIx (eB 4) (eC (.int 2))) (eB 2))) (sPutP 3 (pNm 3) (eW (eIx (eB 4) (eC (.int 1)))) (eOp gAdd (eDget (eB 3) (eW (eIx (eB 4) (eC (.int 1)))) (eC (.int 0))) (eCallM phi_event_done 0 (pNm 0) (aC (eV 4) aN)))) sNx)
def B_one_day_2 : SF :=
  (sSeq (sSet 8 (ePop 0 (pKey 0 (pNm 0) (eV 7)) (eV 2) (eC (.int 0))))
  (sSeq (sIf (cT (eCmp cGt (eB 8) (eC (.int 0)))) (sApp 5 (eFz (eT (aC (eV 7) (aC (eV 8) aN))))) sNx)
  (sIf (cT (eCmp cGt (eDget (eB 3) (eV 7) (eC (.int 0))) (eC (.int 0)))) (sApp 6 (eFz (eT (aC (eV 7) (aC (eDix (eB 3) (eV 7)) aN))))) sNx)))
def F_one_day : SF :=
  (sSeq (sSet 3 eDn)
  (sSeq (sFor (iL (eV 1)) (gNm 4) B_one_day_1)
  (sSeq (sSet 5 (eL aN))
  (sSeq (sSet 6 (eL aN))
  (sSeq (sFor (iL (eFz (eKeysL (eB 0)))) (gNm 7) B_one_day_2)
  (sRet (eT (aC (eM 5) (aC (eM 6) aN)))))))))
def phi_one_day : T → List D → Option (T × T) := runM 9 2 F_one_day
def B_told_days_1 : SF :=
  (sPutP 3 (pNm 3) (eV 4) (eDictP (eB 6)))
def B_told_days_2 : SF :=
  (sSeq (sSet 10 (eB1 gSum (eValsL (eDk (eB 3) (eV 4)))))
  (sIf (cT (eCmp cGt (eB 10) (eC (.int 0)))) (sApp 9 (eFz (eT (aC (eV 4) (aC (eV 10) aN))))) sNx))
def F_told_days : SF :=
  (sSeq (sSet 3 eDn)
  (sSeq (sFor (iL (eV 0)) (gTp 3 (gAnd (gNm 4) (gAnd (gNm 5) (gAnd (gNm 6) gEnd)))) B_told_days_1)
  (sSeq (sSet 7 (eComp [8] (iR2 (aC (eC (.int 1)) (aC (eOp gAdd (eV 2) (eC (.int 1))) aN))) (gNm 8) cYes (eCallM phi_one_day 3 (pNm 3) (aC (eV 1) (aC (eV 8) aN)))))
  (sSeq (sSet 9 (eL aN))
  (sSeq (sFor (iKy (eV 3)) (gNm 4) B_told_days_2)
  (sRet (eT (aC (eM 7) (aC (eM 9) aN)))))))))
def phi_told_days : List D → Option T := runF 11 3 F_told_days
def F_law_cell : SF :=
  (sSeq (sIf (cT (eCmp cLt (eB 1) (eB1 gLen (eB 0)))) (sRet (eW (eIx (eB 0) (eV 1)))) sNx)
  (sRet (eC (.int 0))))
def phi_law_cell : List D → Option T := runF 2 2 F_law_cell
def F_law_mixed : SF :=
  (sSeq (sSet 2 (eOp gMod (eOp gAdd (eOp gMul (eOp gMod (eV 0) (eC (.int 2147483647))) (eC (.int 48271))) (eOp gMul (eOp gAdd (eOp gAdd (eOp gMul (eV 1) (eV 1)) (eOp gMul (eC (.int 3)) (eV 1))) (eC (.int 7))) (eC (.int 69621)))) (eC (.int 2147483647))))
  (sRet (eOp gMod (eOp gMul (eV 2) (eV 2)) (eC (.int 2147483647)))))
def phi_law_mixed : List D → Option T := runF 3 2 F_law_mixed
def B_law_names_1 : SF :=
  (sSeq (sSet 9 (eComp [10] (iR1 (aC (eV 6) aN)) (gNm 10) cYes (eV 3)))
  (sSeq (sPut 9 (eV 7) (eW (eIx (eB 4) (eOp gMod (eOp gAdd (eOp gDiv (eV 2) (eC (.int 4200))) (eOp gMul (eC (.int 3)) (eV 5))) (eC (.int 20))))))
  (sSeq (sPut 9 (eOp gMod (eOp gAdd (eV 7) (eC (.int 1))) (eV 6)) (eW (eIx (eB 4) (eOp gMod (eOp gAdd (eOp gDiv (eV 2) (eC (.int 84000))) (eOp gDiv (eV 5) (eC (.int 20)))) (eC (.int 20))))))
  (sApp 8 (eJoin (eC (.str (PySem.Str.ofString ""))) (eB 9))))))
def F_law_names : SF :=
  (sSeq (sSet 2 (eCall phi_law_mixed (aC (eV 0) (aC (eC (.int 3)) aN))))
  (sSeq (sSet 3 (eW (eIx (eC (.str (PySem.Str.ofString "abcdefghijklmnpqrstuvwxyz"))) (eOp gMod (eV 2) (eC (.int 25))))))
  (sSeq (sSet 4 (eC (.str (PySem.Str.ofString "bcdfghjklmnpqrstvwxz"))))
  (sSeq (sIf (cAnd (cT (eCmp eqQ (eOp gMod (eOp gDiv (eV 2) (eC (.int 25))) (eC (.int 3))) (eC (.int 0)))) (cT (eCmp cLt (eB 1) (eC (.int 9))))) (sRet (eComp [5] (iR1 (aC (eV 1) aN)) (gNm 5) cYes (eOp gMulA (eV 3) (eOp gSub (eV 1) (eV 5))))) sNx)
  (sSeq (sSet 6 (eOp gAdd (eC (.int 2)) (eOp gMod (eOp gDiv (eV 2) (eC (.int 75))) (eC (.int 7)))))
  (sSeq (sSet 7 (eOp gMod (eOp gDiv (eV 2) (eC (.int 525))) (eV 6)))
  (sSeq (sSet 8 (eL aN))
  (sSeq (sFor (iR1 (aC (eV 1) aN)) (gNm 5) B_law_names_1)
  (sRet (eM 8))))))))))
def phi_law_names : List D → Option T := runF 11 2 F_law_names
def F_law_coins : SF :=
  (sSeq (sIf (cT (eCmp eqQ (eOp gMod (eV 1) (eC (.int 5))) (eC (.int 0)))) (sRet (eC (.int 1))) sNx)
  (sSeq (sIf (cT (eCmp eqQ (eOp gMod (eV 1) (eC (.int 5))) (eC (.int 1)))) (sRet (eM 2)) sNx)
  (sSeq (sIf (cT (eCmp eqQ (eOp gMod (eV 1) (eC (.int 5))) (eC (.int 2)))) (sRet (eOp gAdd (eC (.int 1)) (eOp gMod (eV 0) (eC (.int 7))))) sNx)
  (sSeq (sIf (cT (eCmp eqQ (eOp gMod (eV 1) (eC (.int 5))) (eC (.int 3)))) (sRet (eOp gAdd (eC (.int 1)) (eOp gMod (eV 0) (eV 2)))) sNx)
  (sRet (eOp gAdd (eC (.int 1)) (eOp gMod (eOp gMul (eOp gMul (eOp gAdd (eOp gMod (eV 0) (eV 2)) (eC (.int 1))) (eOp gAdd (eV 1) (eC (.int 48271)))) (eC (.int 99999999999999997))) (eV 2))))))))
def phi_law_coins : List D → Option T := runF 3 3 F_law_coins
def B_law_alike_1 (φ : List D → Option T) : SF :=
  (sIf (cNot (cT (eCall φ (aC (eW (eIx (eB 0) (eV 2))) (aC (eW (eIx (eB 1) (eV 2))) aN))))) (sRet (eC (.bl false))) sNx)
def F_law_alike (φ : List D → Option T) : SF :=
  (sSeq (sIf (cT (eCmp isN (eB 1) (eC .non))) (sRet (eCmp isN (eB 0) (eC .non))) sNx)
  (sSeq (sIf (cT (eIsi "bool" (eB 1))) (sRet (eAnd (eIsi "bool" (eB 0)) (eCmp eqQ (eB 0) (eB 1)))) sNx)
  (sSeq (sIf (cT (eIsi "int" (eB 1))) (sRet (eAnd (eIsi "int" (eB 0)) (eAnd (eNot (eIsi "bool" (eB 0))) (eCmp eqQ (eB 0) (eB 1))))) sNx)
  (sSeq (sIf (cT (eIsi "str" (eB 1))) (sRet (eAnd (eIsi "str" (eB 0)) (eCmp eqQ (eB 0) (eB 1)))) sNx)
  (sSeq (sIf (cAnd (cT (eIsi "tuple" (eB 1))) (cNot (cT (eIsi "tuple" (eB 0))))) (sRet (eC (.bl false))) sNx)
  (sSeq (sIf (cAnd (cT (eIsi "list" (eB 1))) (cNot (cT (eIsi "list" (eB 0))))) (sRet (eC (.bl false))) sNx)
  (sSeq (sIf (cT (eCmp neQ (eB1 gLen (eB 0)) (eB1 gLen (eB 1)))) (sRet (eC (.bl false))) sNx)
  (sSeq (sFor (iR1 (aC (eB1 gLen (eB 1)) aN)) (gNm 2) (B_law_alike_1 φ))
  (sRet (eC (.bl true)))))))))))
def phi_law_alike : Nat → List D → Option T
  | 0 => fun _ => none
  | n + 1 => runF 3 2 (F_law_alike (phi_law_alike n))
def B_law_plan_1 : SF :=
  (sSeq (sSet 6 (eCall phi_law_mixed (aC (eV 0) (aC (eOp gAdd (eOp gAdd (eC (.int 40)) (eOp gMul (eC (.int 13)) (eV 1))) (eV 5)) aN))))
  (sSeq (sSet 4 (eOp gAdd (eOp gAdd (eV 4) (eC (.int 1))) (eOp gMod (eV 6) (eW (eIx (eL (aC (eC (.int 5)) (aC (eC (.int 12)) (aC (eC (.int 1)) aN)))) (eOp gMod (eCall phi_law_mixed (aC (eV 0) (aC (eV 1) aN))) (eC (.int 3))))))))
  (sSeq (sIf (cT (eCmp cGt (eB 4) (eC (.int 60)))) sBk sNx)
  (sApp 3 (eFz (eT (aC (eV 4) (aC (eCall phi_law_coins (aC (eOp gAdd (eV 0) (eV 5)) (aC (eOp gMod (eOp gDiv (eV 6) (eC (.int 60))) (eC (.int 1009))) (aC (eOp gPow (eC (.int 10)) (eC (.int 12))) aN)))) aN))))))))
def F_law_plan : SF :=
  (sSeq (sSet 2 (eOp gAdd (eC (.int 1)) (eOp gMod (eCall phi_law_mixed (aC (eV 0) (aC (eOp gAdd (eV 1) (eC (.int 20))) aN))) (eC (.int 5)))))
  (sSeq (sIf (cAnd (cT (eCmp eqQ (eOp gMod (eV 1) (eC (.int 5))) (eC (.int 0)))) (cT (eCmp eqQ (eOp gMod (eOp gDiv (eCall phi_law_mixed (aC (eV 0) (aC (eOp gAdd (eV 1) (eC (.int 20))) aN))) (eC (.int 5))) (eC (.int 3))) (eC (.int 1))))) (sSet 2 (eC (.int 12))) sNx)
  (sSeq (sSet 3 (eL aN))
  (sSeq (sSet 4 (eC (.int 0)))
  (sSeq (sFor (iR1 (aC (eV 2) aN)) (gNm 5) B_law_plan_1)
  (sRet (eM 3)))))))
def phi_law_plan : List D → Option T := runF 7 2 F_law_plan
def B_law_debts_1 : SF :=
  (sSeq (sSet 6 (eCall phi_law_mixed (aC (eV 5) (aC (eV 4) aN))))
  (sIf (cAnd (cT (eCmp cGt (eOp gMod (eV 6) (eC (.int 3))) (eC (.int 0)))) (cT (eCmp cLt (eB1 gLen (eB 3)) (eB1 gLen (eB 1))))) (sApp 3 (eFz (eT (aC (eW (eIx (eB 1) (eB1 gLen (eB 3)))) (aC (eW (eIx (eB 2) (eOp gMod (eOp gDiv (eV 6) (eC (.int 3))) (eB1 gLen (eB 2))))) (aC (eCall phi_law_plan (aC (eV 5) (aC (eV 4) aN))) aN)))))) sNx))
def F_law_debts : SF :=
  (sSeq (sSet 3 (eL aN))
  (sSeq (sFor (iEn (aC (eV 0) aN)) (gTp 2 (gAnd (gNm 4) (gAnd (gNm 5) gEnd))) B_law_debts_1)
  (sRet (eM 3))))
def phi_law_debts : List D → Option T := runF 7 3 F_law_debts
def B_law_1 : SF :=
  (sExtP 13 (pNm 13) (eComp [14, 15] (iL (eV 9)) (gTp 2 (gAnd (gNm 14) (gAnd (gNm 15) gEnd))) (cT (eCmp eqQ (eB 14) (eB 12))) (eT (aC (eV 7) (aC (eV 15) aN)))))
def B_law_2 : SF :=
  (sSeq (sSet 13 (eL aN))
  (sSeq (sFor (iL (eV 3)) (gTp 3 (gAnd (gNm 7) (gAnd (gNm 8) (gAnd (gNm 9) gEnd)))) B_law_1)
  (sApp 11 (eFz (eT (aC (eV 13) (aC (eL aN) aN)))))))
def B_law_3 : SF :=
  (sSeq (sSet 15 (eB1 gSum (eComp [17] (iL (eV 9)) (gNm 17) (cT (eCmp cGt (eIx (eB 17) (eC (.int 0))) (eB 5))) (eW (eIx (eB 17) (eC (.int 1)))))))
  (sIf (cT (eCmp cGt (eB 15) (eC (.int 0)))) (sApp 16 (eFz (eT (aC (eV 7) (aC (eV 15) aN))))) sNx))
def F_law : SF :=
  (sSeq (sSet 1 (eCall phi_law_names (aC (eCall phi_law_cell (aC (eV 0) (aC (eC (.int 0)) aN))) (aC (eC (.int 30)) aN))))
  (sSeq (sSet 2 (eCall phi_law_names (aC (eCall phi_law_cell (aC (eV 0) (aC (eC (.int 1)) aN))) (aC (eC (.int 4)) aN))))
  (sSeq (sSet 3 (eCall phi_law_debts (aC (eFz (eSl (eB 0) (oS (eC (.int 2))) (oS (eC (.int 62))))) (aC (eV 1) (aC (eV 2) aN)))))
  (sSeq (sSet 4 (eCall phi_law_mixed (aC (eCall phi_law_cell (aC (eV 0) (aC (eC (.int 1)) aN))) (aC (eC (.int 1)) aN))))
  (sSeq (sSet 5 (eW (eIx (eL (aC (eC (.int 0)) (aC (eC (.int 1)) (aC (eC (.int 59)) (aC (eC (.int 60)) (aC (eC (.int 120)) (aC (eOp gMod (eOp gDiv (eV 4) (eC (.int 7))) (eC (.int 121))) (aC (eOp gMod (eOp gDiv (eV 4) (eC (.int 7))) (eC (.int 25))) aN)))))))) (eOp gMod (eV 4) (eC (.int 7))))))
  (sSeq (sSet 6 (eComp [7, 8, 9] (iL (eV 3)) (gTp 3 (gAnd (gNm 7) (gAnd (gNm 8) (gAnd (gNm 9) gEnd)))) cYes (eT (aC (eV 7) (aC (eV 8) (aC (eList (eB 9)) aN))))))
  (sSeq (sSet 10 (eCall phi_told_days (aC (eV 6) (aC (eFz (eL aN)) (aC (eV 5) aN)))))
  (sSeq (sSet 11 (eL aN))
  (sSeq (sFor (iR2 (aC (eC (.int 1)) (aC (eOp gAdd (eV 5) (eC (.int 1))) aN))) (gNm 12) B_law_2)
  (sSeq (sSet 16 (eL aN))
  (sSeq (sFor (iL (eV 3)) (gTp 3 (gAnd (gNm 7) (gAnd (gNm 8) (gAnd (gNm 9) gEnd)))) B_law_3)
  (sSeq (sIf (cNot (cT (eCallB (phi_law_alike 8) (aC (eB 10) (aC (eT (aC (eV 11) (aC (eV 16) aN))) aN))))) (sRet (eC (.bl false))) sNx)
  (sSeq (sAppP 10 (pIx 10 (pNm 10) (eC (.int 0))) (eC (.int 7)))
  (sSeq (sAppP 10 (pIx 10 (pNm 10) (eC (.int 1))) (eC (.int 7)))
  (sRet (eAnd (eCmp eqQ (eB 6) (eB 3)) (eCall (phi_law_alike 8) (aC (eFz (eCall phi_told_days (aC (eV 6) (aC (eFz (eL aN)) (aC (eV 5) aN))))) (aC (eFz (eT (aC (eV 11) (aC (eV 16) aN)))) aN)))))))))))))))))))
def phi_law : List D → Option T := runF 18 1 F_law
end K14

set_option Elab.async false
set_option linter.all false
set_option maxRecDepth 100000
set_option maxHeartbeats 4000000
namespace K14
open PySem PySem.Spec PyProof.Rows L2 DL
def topS (i : Nat) : Stmt := PySem.Challenge.pw_tranchefall_k14_plans_told.main.body.getD i (.Pass ⟨0, 0, 0, 0⟩)
abbrev s_event_done : Stmt := topS 1
abbrev N_event_done : List Str := ["plans", "event", "name", "day", "coins"]
theorem sc_event_done : FnScope N_event_done ["plans", "event"] (defScope s_event_done) := ⟨rfl, rfl, rfl, by decide +kernel, rfl, by decide +kernel, by decide +kernel⟩
abbrev s_one_day : Stmt := topS 2
abbrev N_one_day : List Str := ["plans", "events", "day", "lost", "event", "paid_rows", "lost_rows", "name", "coins"]
theorem sc_one_day : FnScope N_one_day ["plans", "events", "day"] (defScope s_one_day) := ⟨rfl, rfl, rfl, by decide +kernel, rfl, by decide +kernel, by decide +kernel⟩
abbrev s_told_days : Stmt := topS 3
abbrev N_told_days : List Str := ["debts", "events", "many", "plans", "name", "pool", "plan", "days", "day", "left", "coins"]
theorem sc_told_days : FnScope N_told_days ["debts", "events", "many"] (defScope s_told_days) := ⟨rfl, rfl, rfl, by decide +kernel, rfl, by decide +kernel, by decide +kernel⟩
abbrev s_law_cell : Stmt := topS 5
abbrev N_law_cell : List Str := ["_law_script", "_law_k"]
theorem sc_law_cell : FnScope N_law_cell ["_law_script", "_law_k"] (defScope s_law_cell) := ⟨rfl, rfl, rfl, by decide +kernel, rfl, by decide +kernel, by decide +kernel⟩
abbrev s_law_mixed : Stmt := topS 6
abbrev N_law_mixed : List Str := ["_law_cell_here", "_law_k", "_law_m"]
theorem sc_law_mixed : FnScope N_law_mixed ["_law_cell_here", "_law_k"] (defScope s_law_mixed) := ⟨rfl, rfl, rfl, by decide +kernel, rfl, by decide +kernel, by decide +kernel⟩
abbrev s_law_names : Stmt := topS 7
abbrev N_law_names : List Str := ["_law_cell_here", "_law_many", "_law_m", "_law_base", "_law_some", "_law_k", "_law_size", "_law_at", "_law_out", "_law_signs", "_law_place"]
theorem sc_law_names : FnScope N_law_names ["_law_cell_here", "_law_many"] (defScope s_law_names) := ⟨rfl, rfl, rfl, by decide +kernel, rfl, by decide +kernel, by decide +kernel⟩
abbrev s_law_coins : Stmt := topS 8
abbrev N_law_coins : List Str := ["_law_cell_here", "_law_way", "_law_most"]
theorem sc_law_coins : FnScope N_law_coins ["_law_cell_here", "_law_way", "_law_most"] (defScope s_law_coins) := ⟨rfl, rfl, rfl, by decide +kernel, rfl, by decide +kernel, by decide +kernel⟩
abbrev s_law_alike : Stmt := topS 9
abbrev N_law_alike : List Str := ["_law_found", "_law_due", "_law_k"]
theorem sc_law_alike : FnScope N_law_alike ["_law_found", "_law_due"] (defScope s_law_alike) := ⟨rfl, rfl, rfl, by decide +kernel, rfl, by decide +kernel, by decide +kernel⟩
abbrev s_law_plan : Stmt := topS 10
abbrev N_law_plan : List Str := ["_law_cell_here", "_law_k", "_law_many", "_law_plan_here", "_law_day", "_law_j", "_law_m"]
theorem sc_law_plan : FnScope N_law_plan ["_law_cell_here", "_law_k"] (defScope s_law_plan) := ⟨rfl, rfl, rfl, by decide +kernel, rfl, by decide +kernel, by decide +kernel⟩
abbrev s_law_debts : Stmt := topS 11
abbrev N_law_debts : List Str := ["_law_cells", "_law_names_here", "_law_pools", "_law_debts_here", "_law_k", "_law_cell_here", "_law_m"]
theorem sc_law_debts : FnScope N_law_debts ["_law_cells", "_law_names_here", "_law_pools"] (defScope s_law_debts) := ⟨rfl, rfl, rfl, by decide +kernel, rfl, by decide +kernel, by decide +kernel⟩
abbrev s_law : Stmt := topS 12
abbrev N_law : List Str := ["_law_script", "_law_names_here", "_law_pools", "_law_debts_here", "_law_m", "_law_many", "_law_handed", "_law_name", "_law_pool", "_law_plan_here", "_law_found", "_law_days", "_law_day", "_law_paid", "_law_when", "_law_coins_here", "_law_left", "_law_pair"]
theorem sc_law : FnScope N_law ["_law_script"] (defScope s_law) := ⟨rfl, rfl, rfl, by decide +kernel, rfl, by decide +kernel, by decide +kernel⟩
structure Txt (K : PySem.W.Frag) (mg : Str → Option Value) (f_event_done f_one_day f_told_days f_law_cell f_law_mixed f_law_names f_law_coins f_law_alike f_law_plan f_law_debts f_law : Addr) (d_event_done d_one_day d_told_days d_law_cell d_law_mixed d_law_names d_law_coins d_law_alike d_law_plan d_law_debts d_law : FuncData) : Prop where
  F_event_done : Fun K "event_done" "event_done" s_event_done f_event_done d_event_done
  b_event_done : Binds K d_event_done ["plans", "event"] []
  g_event_done : mg "event_done" = some (.ref f_event_done)
  F_one_day : Fun K "one_day" "one_day" s_one_day f_one_day d_one_day
  b_one_day : Binds K d_one_day ["plans", "events", "day"] []
  g_one_day : mg "one_day" = some (.ref f_one_day)
  F_told_days : Fun K "told_days" "told_days" s_told_days f_told_days d_told_days
  b_told_days : Binds K d_told_days ["debts", "events", "many"] []
  g_told_days : mg "told_days" = some (.ref f_told_days)
  F_law_cell : Fun K "_law_cell" "_law_cell" s_law_cell f_law_cell d_law_cell
  b_law_cell : Binds K d_law_cell ["_law_script", "_law_k"] []
  g_law_cell : mg "_law_cell" = some (.ref f_law_cell)
  F_law_mixed : Fun K "_law_mixed" "_law_mixed" s_law_mixed f_law_mixed d_law_mixed
  b_law_mixed : Binds K d_law_mixed ["_law_cell_here", "_law_k"] []
  g_law_mixed : mg "_law_mixed" = some (.ref f_law_mixed)
  F_law_names : Fun K "_law_names" "_law_names" s_law_names f_law_names d_law_names
  b_law_names : Binds K d_law_names ["_law_cell_here", "_law_many"] []
  g_law_names : mg "_law_names" = some (.ref f_law_names)
  F_law_coins : Fun K "_law_coins" "_law_coins" s_law_coins f_law_coins d_law_coins
  b_law_coins : Binds K d_law_coins ["_law_cell_here", "_law_way", "_law_most"] []
  g_law_coins : mg "_law_coins" = some (.ref f_law_coins)
  F_law_alike : Fun K "_law_alike" "_law_alike" s_law_alike f_law_alike d_law_alike
  b_law_alike : Binds K d_law_alike ["_law_found", "_law_due"] []
  g_law_alike : mg "_law_alike" = some (.ref f_law_alike)
  F_law_plan : Fun K "_law_plan" "_law_plan" s_law_plan f_law_plan d_law_plan
  b_law_plan : Binds K d_law_plan ["_law_cell_here", "_law_k"] []
  g_law_plan : mg "_law_plan" = some (.ref f_law_plan)
  F_law_debts : Fun K "_law_debts" "_law_debts" s_law_debts f_law_debts d_law_debts
  b_law_debts : Binds K d_law_debts ["_law_cells", "_law_names_here", "_law_pools"] []
  g_law_debts : mg "_law_debts" = some (.ref f_law_debts)
  F_law : Fun K "law" "law" s_law f_law d_law
  b_law : Binds K d_law ["_law_script"] []
  g_law : mg "law" = some (.ref f_law)
  m_list : mg "list" = none
  m_sum : mg "sum" = none
  m_dict : mg "dict" = none
  m_range : mg "range" = none
  m_len : mg "len" = none
  m_isinstance : mg "isinstance" = none
  m_bool : mg "bool" = none
  m_int : mg "int" = none
  m_str : mg "str" = none
  m_tuple : mg "tuple" = none
  m_enumerate : mg "enumerate" = none
section
variable {P : Program} {w : World} {K : PySem.W.Frag} {mg : Str → Option Value} {base : Heap} {f_event_done f_one_day f_told_days f_law_cell f_law_mixed f_law_names f_law_coins f_law_alike f_law_plan f_law_debts f_law : Addr} {d_event_done d_one_day d_told_days d_law_cell d_law_mixed d_law_names d_law_coins d_law_alike d_law_plan d_law_debts d_law : FuncData}
theorem ok_event_done (T : Txt K mg f_event_done f_one_day f_told_days f_law_cell f_law_mixed f_law_names f_law_coins f_law_alike f_law_plan f_law_debts f_law d_event_done d_one_day d_told_days d_law_cell d_law_mixed d_law_names d_law_coins d_law_alike d_law_plan d_law_debts d_law) : FnOk P w K mg base CX0 1 f_event_done d_event_done ["plans", "event"] (spM 1 phi_event_done K) := by
  have nd : N_event_done.Nodup := sc_event_done.nd
  exact okM (Fb := F_event_done) T.F_event_done sc_event_done rfl rfl (by decide) fun cdv A outer s H E hr => have hu := hu_of hr; ⟨_, _,
    (dss_cons (ds_set (i := 2) nd rfl (by first | exact Or.inl rfl | exact Or.inr rfl) (DV.dt (dv_ix (dv_v 1) dt_int)))
      (dss_cons (ds_set (i := 3) nd rfl (by first | exact Or.inl rfl | exact Or.inr rfl) (DV.dt (dv_ix (dv_v 1) dt_int)))
      (dss_cons (ds_if (dc_eq hr.units (dv_ix (dv_v 1) dt_int) (DT.dv dt_str)) (dss_cons (ds_setX (i := 4) nd rfl (by first | exact Or.inl rfl | exact Or.inr rfl) (dx_pop (dp_key hu (dp_name 0) (dt_v 2)) (dt_v 3) dt_int))
      (dss_cons (ds_if (dc_gt (dv_v 4) (DT.dv dt_int)) (dss_one (ds_putP hu (dp_key hu (dp_name 0) (dt_v 2)) (dt_add (dt_v 3) (DV.dt (dv_ix (dv_v 1) dt_int))) (dt_add (dt_dget hu (dv_dk hu (dv_v 0) (dt_v 2)) (dt_add (dt_v 3) (DV.dt (dv_ix (dv_v 1) dt_int))) dt_int) (dt_v 4)))) dss_nil)
      (dss_one (ds_ret dt_int)))) dss_nil)
      (dss_cons (ds_set (i := 4) nd rfl (by first | exact Or.inl rfl | exact Or.inr rfl) (dt_sum rfl (by rfl) T.m_sum (DT.dv (dt_listVals rfl (by rfl) T.m_list (dv_dk hu (dv_v 0) (dt_v 2))))))
      (dss_cons (ds_putP hu (dp_name 0) (dt_v 2) dt_dn)
      (dss_cons (ds_if (dc_eq hr.units (dv_ix (dv_v 1) dt_int) (DT.dv dt_str)) (dss_one (ds_ret (dt_m 4))) dss_nil)
      (dss_cons (ds_if (dc_gt (dv_v 4) (DT.dv dt_int)) (dss_one (ds_putP hu (dp_key hu (dp_name 0) (dt_v 2)) (dt_v 3) (dt_v 4))) dss_nil)
      (dss_one (ds_ret dt_int))))))))), by decide⟩
theorem ok_one_day (T : Txt K mg f_event_done f_one_day f_told_days f_law_cell f_law_mixed f_law_names f_law_coins f_law_alike f_law_plan f_law_debts f_law d_event_done d_one_day d_told_days d_law_cell d_law_mixed d_law_names d_law_coins d_law_alike d_law_plan d_law_debts d_law) : FnOk P w K mg base CX0 2 f_one_day d_one_day ["plans", "events", "day"] (spM 2 phi_one_day K) := by
  have nd : N_one_day.Nodup := sc_one_day.nd
  exact okM (Fb := F_one_day) T.F_one_day sc_one_day rfl rfl (by decide) fun cdv A outer s H E hr => have hu := hu_of hr; ⟨_, _,
    (dss_cons (ds_set (i := 3) nd rfl (by first | exact Or.inl rfl | exact Or.inr rfl) dt_dn)
      (dss_cons (ds_for PassesOwn.never rfl (di_list (dt_v 1)) (dg_name (i := 4) nd rfl (by first | exact Or.inl rfl | exact Or.inr rfl)) (dss_one (ds_if (dc_eq hr.units (dv_ix (dv_v 4) dt_int) (dv_v 2)) (dss_one (ds_putPX hu (dp_name 3) (DV.dt (dv_ix (dv_v 4) dt_int)) (dx_add (DT.dx (dt_dget hu (dv_v 3) (DV.dt (dv_ix (dv_v 4) dt_int)) dt_int)) (dx_callM (n := 1) (φ := phi_event_done) (fun _ _ _ h => runM_len h) (ok_event_done T) (hr.mono (by decide)) (by rfl) T.g_event_done T.F_event_done.kp T.b_event_done (dp_name 0) (da_cons (dt_v 4) da_nil))))) dss_nil)))
      (dss_cons (ds_set (i := 5) nd rfl (by first | exact Or.inl rfl | exact Or.inr rfl) (dt_lst da_nil))
      (dss_cons (ds_set (i := 6) nd rfl (by first | exact Or.inl rfl | exact Or.inr rfl) (dt_lst da_nil))
      (dss_cons (ds_for PassesOwn.never rfl (di_list (dt_fz (dt_listD rfl (by rfl) T.m_list (dv_v 0)))) (dg_name (i := 7) nd rfl (by first | exact Or.inl rfl | exact Or.inr rfl)) (dss_cons (ds_setX (i := 8) nd rfl (by first | exact Or.inl rfl | exact Or.inr rfl) (dx_pop (dp_key hu (dp_name 0) (dt_v 7)) (dt_v 2) dt_int))
      (dss_cons (ds_if (dc_gt (dv_v 8) (DT.dv dt_int)) (dss_one (ds_app 5 (dt_fz (dt_tup (da_cons (dt_v 7) (da_cons (dt_v 8) da_nil)))))) dss_nil)
      (dss_one (ds_if (dc_gt (DT.dv (dt_dget hu (dv_v 3) (dt_v 7) dt_int)) (DT.dv dt_int)) (dss_one (ds_app 6 (dt_fz (dt_tup (da_cons (dt_v 7) (da_cons (dt_dix hu (dv_v 3) (dt_v 7)) da_nil)))))) dss_nil)))))
      (dss_one (ds_ret (dt_tup (da_cons (dt_m 5) (da_cons (dt_m 6) da_nil)))))))))), by decide⟩
theorem ok_told_days (T : Txt K mg f_event_done f_one_day f_told_days f_law_cell f_law_mixed f_law_names f_law_coins f_law_alike f_law_plan f_law_debts f_law d_event_done d_one_day d_told_days d_law_cell d_law_mixed d_law_names d_law_coins d_law_alike d_law_plan d_law_debts d_law) : FnOk P w K mg base CX0 3 f_told_days d_told_days ["debts", "events", "many"] (spD 3 phi_told_days K) := by
  have nd : N_told_days.Nodup := sc_told_days.nd
  exact okD (Fb := F_told_days) T.F_told_days sc_told_days rfl rfl fun cdv A outer s H E hr => have hu := hu_of hr; ⟨_, _,
    (dss_cons (ds_set (i := 3) nd rfl (by first | exact Or.inl rfl | exact Or.inr rfl) dt_dn)
      (dss_cons (ds_for PassesOwn.never rfl (di_list (dt_v 0)) (dg_tup rfl (dgs_cons (dg_name (i := 4) nd rfl (by first | exact Or.inl rfl | exact Or.inr rfl)) (dgs_cons (dg_name (i := 5) nd rfl (by first | exact Or.inl rfl | exact Or.inr rfl)) (dgs_cons (dg_name (i := 6) nd rfl (by first | exact Or.inl rfl | exact Or.inr rfl)) dgs_nil)))) (dss_one (ds_putP hu (dp_name 3) (dt_v 4) (dt_dictP rfl (by rfl) T.m_dict (dv_v 6)))))
      (dss_cons (ds_setLcX (i := 7) (own := [("day", 8)]) rfl nd rfl rfl (sw_true rfl rfl rfl (by decide +kernel)) (di_range2 (by rfl) T.m_range (da_cons dt_int (da_cons (dt_add (dt_v 2) dt_int) da_nil))) (blkOk_by (own := [("day", 8)]) (N := N_told_days) (sc := defScope s_told_days) (by decide +kernel)) (fun _ _ _ _ _ => (dg_name (i := 8) nd rfl (by first | exact Or.inl rfl | exact Or.inr rfl))) (fun _ _ _ _ _ => dts_nil) (fun _ _ _ _ _ => (dx_callM (n := 2) (φ := phi_one_day) (fun _ _ _ h => runM_len h) (ok_one_day T) (hr.mono (by decide)) (by rfl) T.g_one_day T.F_one_day.kp T.b_one_day (dp_name 3) (da_cons (dt_v 1) (da_cons (dt_v 8) da_nil)))) (by decide))
      (dss_cons (ds_set (i := 9) nd rfl (by first | exact Or.inl rfl | exact Or.inr rfl) (dt_lst da_nil))
      (dss_cons (ds_forKeys 3 PassesOwn.never rfl (dg_name (i := 4) nd rfl (by first | exact Or.inl rfl | exact Or.inr rfl)) (dss_cons (ds_set (i := 10) nd rfl (by first | exact Or.inl rfl | exact Or.inr rfl) (dt_sum rfl (by rfl) T.m_sum (DT.dv (dt_listVals rfl (by rfl) T.m_list (dv_dk hu (dv_v 3) (dt_v 4))))))
      (dss_one (ds_if (dc_gt (dv_v 10) (DT.dv dt_int)) (dss_one (ds_app 9 (dt_fz (dt_tup (da_cons (dt_v 4) (da_cons (dt_v 10) da_nil)))))) dss_nil))))
      (dss_one (ds_ret (dt_tup (da_cons (dt_m 7) (da_cons (dt_m 9) da_nil))))))))))⟩
theorem ok_law_cell (T : Txt K mg f_event_done f_one_day f_told_days f_law_cell f_law_mixed f_law_names f_law_coins f_law_alike f_law_plan f_law_debts f_law d_event_done d_one_day d_told_days d_law_cell d_law_mixed d_law_names d_law_coins d_law_alike d_law_plan d_law_debts d_law) : FnOk P w K mg base CX0 1 f_law_cell d_law_cell ["_law_script", "_law_k"] (spD 2 phi_law_cell K) := by
  have nd : N_law_cell.Nodup := sc_law_cell.nd
  exact okD (Fb := F_law_cell) T.F_law_cell sc_law_cell rfl rfl fun cdv A outer s H E hr => have hu := hu_of hr; ⟨_, _,
    (dss_cons (ds_if (dc_lt (dv_v 1) (DT.dv (dt_len (by rfl) T.m_len (dv_v 0)))) (dss_one (ds_ret (DV.dt (dv_ix (dv_v 0) (dt_v 1))))) dss_nil)
      (dss_one (ds_ret dt_int)))⟩
theorem ok_law_mixed (T : Txt K mg f_event_done f_one_day f_told_days f_law_cell f_law_mixed f_law_names f_law_coins f_law_alike f_law_plan f_law_debts f_law d_event_done d_one_day d_told_days d_law_cell d_law_mixed d_law_names d_law_coins d_law_alike d_law_plan d_law_debts d_law) : FnOk P w K mg base CX0 1 f_law_mixed d_law_mixed ["_law_cell_here", "_law_k"] (spD 2 phi_law_mixed K) := by
  have nd : N_law_mixed.Nodup := sc_law_mixed.nd
  exact okD (Fb := F_law_mixed) T.F_law_mixed sc_law_mixed rfl rfl fun cdv A outer s H E hr => have hu := hu_of hr; ⟨_, _,
    (dss_cons (ds_set (i := 2) nd rfl (by first | exact Or.inl rfl | exact Or.inr rfl) (dt_mod (dt_add (dt_mul (dt_mod (dt_v 0) dt_int) dt_int) (dt_mul (dt_add (dt_add (dt_mul (dt_v 1) (dt_v 1)) (dt_mul dt_int (dt_v 1))) dt_int) dt_int)) dt_int))
      (dss_one (ds_ret (dt_mod (dt_mul (dt_v 2) (dt_v 2)) dt_int))))⟩
theorem ok_law_names (T : Txt K mg f_event_done f_one_day f_told_days f_law_cell f_law_mixed f_law_names f_law_coins f_law_alike f_law_plan f_law_debts f_law d_event_done d_one_day d_told_days d_law_cell d_law_mixed d_law_names d_law_coins d_law_alike d_law_plan d_law_debts d_law) : FnOk P w K mg base CX0 2 f_law_names d_law_names ["_law_cell_here", "_law_many"] (spD 2 phi_law_names K) := by
  have nd : N_law_names.Nodup := sc_law_names.nd
  exact okD (Fb := F_law_names) T.F_law_names sc_law_names rfl rfl fun cdv A outer s H E hr => have hu := hu_of hr; ⟨_, _,
    (dss_cons (ds_set (i := 2) nd rfl (by first | exact Or.inl rfl | exact Or.inr rfl) (dt_call (n := 2) (φ := phi_law_mixed) (fun _ _ h => runF_len h) (ok_law_mixed T) (hr.mono (by decide)) (by rfl) T.g_law_mixed T.F_law_mixed.kp T.b_law_mixed (da_cons (dt_v 0) (da_cons dt_int da_nil))))
      (dss_cons (ds_set (i := 3) nd rfl (by first | exact Or.inl rfl | exact Or.inr rfl) (DV.dt (dv_ix (DT.dv dt_str) (dt_mod (dt_v 2) dt_int))))
      (dss_cons (ds_set (i := 4) nd rfl (by first | exact Or.inl rfl | exact Or.inr rfl) dt_str)
      (dss_cons (ds_if (DW.dc (dw_and (dc_eq hr.units (DT.dv (dt_mod (dt_div (dt_v 2) dt_int) dt_int)) (DT.dv dt_int)) (dw_and1 (dc_lt (dv_v 1) (DT.dv dt_int))))) (dss_one (ds_ret (dt_comp (own := [("_law_k", 5)]) rfl nd (di_range1 (by rfl) T.m_range (da_cons (dt_v 1) da_nil)) (blkOk_by (own := [("_law_k", 5)]) (N := N_law_names) (sc := defScope s_law_names) (by decide +kernel)) (fun _ _ _ _ _ => (dg_name (i := 5) nd rfl (by first | exact Or.inl rfl | exact Or.inr rfl))) (fun _ _ _ _ _ => dts_nil) (fun _ _ _ _ _ => (dt_mulA (dt_v 3) (dt_sub (dt_v 1) (dt_v 5)))) (by decide)))) dss_nil)
      (dss_cons (ds_set (i := 6) nd rfl (by first | exact Or.inl rfl | exact Or.inr rfl) (dt_add dt_int (dt_mod (dt_div (dt_v 2) dt_int) dt_int)))
      (dss_cons (ds_set (i := 7) nd rfl (by first | exact Or.inl rfl | exact Or.inr rfl) (dt_mod (dt_div (dt_v 2) dt_int) (dt_v 6)))
      (dss_cons (ds_set (i := 8) nd rfl (by first | exact Or.inl rfl | exact Or.inr rfl) (dt_lst da_nil))
      (dss_cons (ds_for PassesOwn.never rfl (di_range1 (by rfl) T.m_range (da_cons (dt_v 1) da_nil)) (dg_name (i := 5) nd rfl (by first | exact Or.inl rfl | exact Or.inr rfl)) (dss_cons (ds_setLc (i := 9) (own := [("_law_place", 10)]) rfl nd rfl rfl (sw_true rfl rfl rfl (by decide +kernel)) (di_range1 (by rfl) T.m_range (da_cons (dt_v 6) da_nil)) (blkOk_by (own := [("_law_place", 10)]) (N := N_law_names) (sc := defScope s_law_names) (by decide +kernel)) (fun _ _ _ _ _ => (dg_name (i := 10) nd rfl (by first | exact Or.inl rfl | exact Or.inr rfl))) (fun _ _ _ _ _ => dts_nil) (fun _ _ _ _ _ => (dt_v 3)) (by decide))
      (dss_cons (ds_put 9 (DV.dt (dv_ix (dv_v 4) (dt_mod (dt_add (dt_div (dt_v 2) dt_int) (dt_mul dt_int (dt_v 5))) dt_int))) (dt_v 7))
      (dss_cons (ds_put 9 (DV.dt (dv_ix (dv_v 4) (dt_mod (dt_add (dt_div (dt_v 2) dt_int) (dt_div (dt_v 5) dt_int)) dt_int))) (dt_mod (dt_add (dt_v 7) dt_int) (dt_v 6)))
      (dss_one (ds_app 8 (dt_join dt_str (dv_v 9))))))))
      (dss_one (ds_ret (dt_m 8)))))))))))⟩
theorem ok_law_coins (T : Txt K mg f_event_done f_one_day f_told_days f_law_cell f_law_mixed f_law_names f_law_coins f_law_alike f_law_plan f_law_debts f_law d_event_done d_one_day d_told_days d_law_cell d_law_mixed d_law_names d_law_coins d_law_alike d_law_plan d_law_debts d_law) : FnOk P w K mg base CX0 1 f_law_coins d_law_coins ["_law_cell_here", "_law_way", "_law_most"] (spD 3 phi_law_coins K) := by
  have nd : N_law_coins.Nodup := sc_law_coins.nd
  exact okD (Fb := F_law_coins) T.F_law_coins sc_law_coins rfl rfl fun cdv A outer s H E hr => have hu := hu_of hr; ⟨_, _,
    (dss_cons (ds_if (dc_eq hr.units (DT.dv (dt_mod (dt_v 1) dt_int)) (DT.dv dt_int)) (dss_one (ds_ret dt_int)) dss_nil)
      (dss_cons (ds_if (dc_eq hr.units (DT.dv (dt_mod (dt_v 1) dt_int)) (DT.dv dt_int)) (dss_one (ds_ret (dt_m 2))) dss_nil)
      (dss_cons (ds_if (dc_eq hr.units (DT.dv (dt_mod (dt_v 1) dt_int)) (DT.dv dt_int)) (dss_one (ds_ret (dt_add dt_int (dt_mod (dt_v 0) dt_int)))) dss_nil)
      (dss_cons (ds_if (dc_eq hr.units (DT.dv (dt_mod (dt_v 1) dt_int)) (DT.dv dt_int)) (dss_one (ds_ret (dt_add dt_int (dt_mod (dt_v 0) (dt_v 2))))) dss_nil)
      (dss_one (ds_ret (dt_add dt_int (dt_mod (dt_mul (dt_mul (dt_add (dt_mod (dt_v 0) (dt_v 2)) dt_int) (dt_add (dt_v 1) dt_int)) dt_int) (dt_v 2)))))))))⟩
theorem ok_law_alike (T : Txt K mg f_event_done f_one_day f_told_days f_law_cell f_law_mixed f_law_names f_law_coins f_law_alike f_law_plan f_law_debts f_law d_event_done d_one_day d_told_days d_law_cell d_law_mixed d_law_names d_law_coins d_law_alike d_law_plan d_law_debts d_law) : ∀ n : Nat, FnOk P w K mg base CX0 (n + 1) f_law_alike d_law_alike ["_law_found", "_law_due"] (spD 2 (phi_law_alike n) K)
  | 0 => fn_none
  | n + 1 => by
    have nd : N_law_alike.Nodup := sc_law_alike.nd
    have IH := ok_law_alike T n
    rw [show n + 1 + 1 = n + 1 + 1 by omega]
    exact okD (Fb := F_law_alike (phi_law_alike n)) T.F_law_alike sc_law_alike rfl rfl fun cdv A outer s H E hr => have hu := hu_of hr; ⟨_, _,
      (dss_cons (ds_if (dc_is (dv_v 1) (DT.dv dt_non)) (dss_one (ds_ret (dt_is (dv_v 0) (DT.dv dt_non)))) dss_nil)
      (dss_cons (ds_if (dc_val (dt_isi (ty := "bool") (by rfl) T.m_isinstance (dv_v 1) (by rfl) T.m_bool (by decide +kernel))) (dss_one (ds_ret (dt_and (dt_isi (ty := "bool") (by rfl) T.m_isinstance (dv_v 0) (by rfl) T.m_bool (by decide +kernel)) (dt_one (dt_eq hr.units (dv_v 0) (dv_v 1)))))) dss_nil)
      (dss_cons (ds_if (dc_val (dt_isi (ty := "int") (by rfl) T.m_isinstance (dv_v 1) (by rfl) T.m_int (by decide +kernel))) (dss_one (ds_ret (dt_and (dt_isi (ty := "int") (by rfl) T.m_isinstance (dv_v 0) (by rfl) T.m_int (by decide +kernel)) (dt_and (dt_not (dt_isi (ty := "bool") (by rfl) T.m_isinstance (dv_v 0) (by rfl) T.m_bool (by decide +kernel))) (dt_one (dt_eq hr.units (dv_v 0) (dv_v 1))))))) dss_nil)
      (dss_cons (ds_if (dc_val (dt_isi (ty := "str") (by rfl) T.m_isinstance (dv_v 1) (by rfl) T.m_str (by decide +kernel))) (dss_one (ds_ret (dt_and (dt_isi (ty := "str") (by rfl) T.m_isinstance (dv_v 0) (by rfl) T.m_str (by decide +kernel)) (dt_one (dt_eq hr.units (dv_v 0) (dv_v 1)))))) dss_nil)
      (dss_cons (ds_if (DW.dc (dw_and (dc_val (dt_isi (ty := "tuple") (by rfl) T.m_isinstance (dv_v 1) (by rfl) T.m_tuple (by decide +kernel))) (dw_and1 (dc_not (dc_val (dt_isi (ty := "tuple") (by rfl) T.m_isinstance (dv_v 0) (by rfl) T.m_tuple (by decide +kernel))))))) (dss_one (ds_ret dt_bl)) dss_nil)
      (dss_cons (ds_if (DW.dc (dw_and (dc_val (dt_isi (ty := "list") (by rfl) T.m_isinstance (dv_v 1) (by rfl) T.m_list (by decide +kernel))) (dw_and1 (dc_not (dc_val (dt_isi (ty := "list") (by rfl) T.m_isinstance (dv_v 0) (by rfl) T.m_list (by decide +kernel))))))) (dss_one (ds_ret dt_bl)) dss_nil)
      (dss_cons (ds_if (dc_ne hr.units (DT.dv (dt_len (by rfl) T.m_len (dv_v 0))) (DT.dv (dt_len (by rfl) T.m_len (dv_v 1)))) (dss_one (ds_ret dt_bl)) dss_nil)
      (dss_cons (ds_for PassesOwn.never rfl (di_range1 (by rfl) T.m_range (da_cons (dt_len (by rfl) T.m_len (dv_v 1)) da_nil)) (dg_name (i := 2) nd rfl (by first | exact Or.inl rfl | exact Or.inr rfl)) (dss_one (ds_if (dc_not (dc_val (dt_call (n := 2) (φ := phi_law_alike n) (by cases n with | zero => exact fun _ _ h => nomatch h | succ n => exact fun _ _ h => runF_len h) IH hr (by rfl) T.g_law_alike T.F_law_alike.kp T.b_law_alike (da_cons (DV.dt (dv_ix (dv_v 0) (dt_v 2))) (da_cons (DV.dt (dv_ix (dv_v 1) (dt_v 2))) da_nil))))) (dss_one (ds_ret dt_bl)) dss_nil)))
      (dss_one (ds_ret dt_bl))))))))))⟩
theorem ok_law_plan (T : Txt K mg f_event_done f_one_day f_told_days f_law_cell f_law_mixed f_law_names f_law_coins f_law_alike f_law_plan f_law_debts f_law d_event_done d_one_day d_told_days d_law_cell d_law_mixed d_law_names d_law_coins d_law_alike d_law_plan d_law_debts d_law) : FnOk P w K mg base CX0 2 f_law_plan d_law_plan ["_law_cell_here", "_law_k"] (spD 2 phi_law_plan K) := by
  have nd : N_law_plan.Nodup := sc_law_plan.nd
  exact okD (Fb := F_law_plan) T.F_law_plan sc_law_plan rfl rfl fun cdv A outer s H E hr => have hu := hu_of hr; ⟨_, _,
    (dss_cons (ds_set (i := 2) nd rfl (by first | exact Or.inl rfl | exact Or.inr rfl) (dt_add dt_int (dt_mod (dt_call (n := 2) (φ := phi_law_mixed) (fun _ _ h => runF_len h) (ok_law_mixed T) (hr.mono (by decide)) (by rfl) T.g_law_mixed T.F_law_mixed.kp T.b_law_mixed (da_cons (dt_v 0) (da_cons (dt_add (dt_v 1) dt_int) da_nil))) dt_int)))
      (dss_cons (ds_if (DW.dc (dw_and (dc_eq hr.units (DT.dv (dt_mod (dt_v 1) dt_int)) (DT.dv dt_int)) (dw_and1 (dc_eq hr.units (DT.dv (dt_mod (dt_div (dt_call (n := 2) (φ := phi_law_mixed) (fun _ _ h => runF_len h) (ok_law_mixed T) (hr.mono (by decide)) (by rfl) T.g_law_mixed T.F_law_mixed.kp T.b_law_mixed (da_cons (dt_v 0) (da_cons (dt_add (dt_v 1) dt_int) da_nil))) dt_int) dt_int)) (DT.dv dt_int))))) (dss_one (ds_set (i := 2) nd rfl (by first | exact Or.inl rfl | exact Or.inr rfl) dt_int)) dss_nil)
      (dss_cons (ds_set (i := 3) nd rfl (by first | exact Or.inl rfl | exact Or.inr rfl) (dt_lst da_nil))
      (dss_cons (ds_set (i := 4) nd rfl (by first | exact Or.inl rfl | exact Or.inr rfl) dt_int)
      (dss_cons (ds_for PassesOwn.never rfl (di_range1 (by rfl) T.m_range (da_cons (dt_v 2) da_nil)) (dg_name (i := 5) nd rfl (by first | exact Or.inl rfl | exact Or.inr rfl)) (dss_cons (ds_set (i := 6) nd rfl (by first | exact Or.inl rfl | exact Or.inr rfl) (dt_call (n := 2) (φ := phi_law_mixed) (fun _ _ h => runF_len h) (ok_law_mixed T) (hr.mono (by decide)) (by rfl) T.g_law_mixed T.F_law_mixed.kp T.b_law_mixed (da_cons (dt_v 0) (da_cons (dt_add (dt_add dt_int (dt_mul dt_int (dt_v 1))) (dt_v 5)) da_nil))))
      (dss_cons (ds_set (i := 4) nd rfl (by first | exact Or.inl rfl | exact Or.inr rfl) (dt_add (dt_add (dt_v 4) dt_int) (dt_mod (dt_v 6) (DV.dt (dv_ix (DT.dv (dt_lst (da_cons dt_int (da_cons dt_int (da_cons dt_int da_nil))))) (dt_mod (dt_call (n := 2) (φ := phi_law_mixed) (fun _ _ h => runF_len h) (ok_law_mixed T) (hr.mono (by decide)) (by rfl) T.g_law_mixed T.F_law_mixed.kp T.b_law_mixed (da_cons (dt_v 0) (da_cons (dt_v 1) da_nil))) dt_int))))))
      (dss_cons (ds_if (dc_gt (dv_v 4) (DT.dv dt_int)) (dss_one ds_break) dss_nil)
      (dss_one (ds_app 3 (dt_fz (dt_tup (da_cons (dt_v 4) (da_cons (dt_call (n := 3) (φ := phi_law_coins) (fun _ _ h => runF_len h) (ok_law_coins T) (hr.mono (by decide)) (by rfl) T.g_law_coins T.F_law_coins.kp T.b_law_coins (da_cons (dt_add (dt_v 0) (dt_v 5)) (da_cons (dt_mod (dt_div (dt_v 6) dt_int) dt_int) (da_cons (dt_pow dt_int dt_int) da_nil)))) da_nil))))))))))
      (dss_one (ds_ret (dt_m 3))))))))⟩
theorem ok_law_debts (T : Txt K mg f_event_done f_one_day f_told_days f_law_cell f_law_mixed f_law_names f_law_coins f_law_alike f_law_plan f_law_debts f_law d_event_done d_one_day d_told_days d_law_cell d_law_mixed d_law_names d_law_coins d_law_alike d_law_plan d_law_debts d_law) : FnOk P w K mg base CX0 3 f_law_debts d_law_debts ["_law_cells", "_law_names_here", "_law_pools"] (spD 3 phi_law_debts K) := by
  have nd : N_law_debts.Nodup := sc_law_debts.nd
  exact okD (Fb := F_law_debts) T.F_law_debts sc_law_debts rfl rfl fun cdv A outer s H E hr => have hu := hu_of hr; ⟨_, _,
    (dss_cons (ds_set (i := 3) nd rfl (by first | exact Or.inl rfl | exact Or.inr rfl) (dt_lst da_nil))
      (dss_cons (ds_for PassesOwn.never rfl (di_enum (by rfl) T.m_enumerate (da_cons (dt_v 0) da_nil)) (dg_tup rfl (dgs_cons (dg_name (i := 4) nd rfl (by first | exact Or.inl rfl | exact Or.inr rfl)) (dgs_cons (dg_name (i := 5) nd rfl (by first | exact Or.inl rfl | exact Or.inr rfl)) dgs_nil))) (dss_cons (ds_set (i := 6) nd rfl (by first | exact Or.inl rfl | exact Or.inr rfl) (dt_call (n := 2) (φ := phi_law_mixed) (fun _ _ h => runF_len h) (ok_law_mixed T) (hr.mono (by decide)) (by rfl) T.g_law_mixed T.F_law_mixed.kp T.b_law_mixed (da_cons (dt_v 5) (da_cons (dt_v 4) da_nil))))
      (dss_one (ds_if (DW.dc (dw_and (dc_gt (DT.dv (dt_mod (dt_v 6) dt_int)) (DT.dv dt_int)) (dw_and1 (dc_lt (DT.dv (dt_len (by rfl) T.m_len (dv_v 3))) (DT.dv (dt_len (by rfl) T.m_len (dv_v 1))))))) (dss_one (ds_app 3 (dt_fz (dt_tup (da_cons (DV.dt (dv_ix (dv_v 1) (dt_len (by rfl) T.m_len (dv_v 3)))) (da_cons (DV.dt (dv_ix (dv_v 2) (dt_mod (dt_div (dt_v 6) dt_int) (dt_len (by rfl) T.m_len (dv_v 2))))) (da_cons (dt_call (n := 2) (φ := phi_law_plan) (fun _ _ h => runF_len h) (ok_law_plan T) (hr.mono (by decide)) (by rfl) T.g_law_plan T.F_law_plan.kp T.b_law_plan (da_cons (dt_v 5) (da_cons (dt_v 4) da_nil))) da_nil))))))) dss_nil))))
      (dss_one (ds_ret (dt_m 3)))))⟩
theorem ok_law (T : Txt K mg f_event_done f_one_day f_told_days f_law_cell f_law_mixed f_law_names f_law_coins f_law_alike f_law_plan f_law_debts f_law d_event_done d_one_day d_told_days d_law_cell d_law_mixed d_law_names d_law_coins d_law_alike d_law_plan d_law_debts d_law) : FnOk P w K mg base CX0 10 f_law d_law ["_law_script"] (spD 1 phi_law K) := by
  have nd : N_law.Nodup := sc_law.nd
  exact okD (Fb := F_law) T.F_law sc_law rfl rfl fun cdv A outer s H E hr => have hu := hu_of hr; ⟨_, _,
    (dss_cons (ds_set (i := 1) nd rfl (by first | exact Or.inl rfl | exact Or.inr rfl) (dt_call (n := 2) (φ := phi_law_names) (fun _ _ h => runF_len h) (ok_law_names T) (hr.mono (by decide)) (by rfl) T.g_law_names T.F_law_names.kp T.b_law_names (da_cons (dt_call (n := 2) (φ := phi_law_cell) (fun _ _ h => runF_len h) (ok_law_cell T) (hr.mono (by decide)) (by rfl) T.g_law_cell T.F_law_cell.kp T.b_law_cell (da_cons (dt_v 0) (da_cons dt_int da_nil))) (da_cons dt_int da_nil))))
      (dss_cons (ds_set (i := 2) nd rfl (by first | exact Or.inl rfl | exact Or.inr rfl) (dt_call (n := 2) (φ := phi_law_names) (fun _ _ h => runF_len h) (ok_law_names T) (hr.mono (by decide)) (by rfl) T.g_law_names T.F_law_names.kp T.b_law_names (da_cons (dt_call (n := 2) (φ := phi_law_cell) (fun _ _ h => runF_len h) (ok_law_cell T) (hr.mono (by decide)) (by rfl) T.g_law_cell T.F_law_cell.kp T.b_law_cell (da_cons (dt_v 0) (da_cons dt_int da_nil))) (da_cons dt_int da_nil))))
      (dss_cons (ds_set (i := 3) nd rfl (by first | exact Or.inl rfl | exact Or.inr rfl) (dt_call (n := 3) (φ := phi_law_debts) (fun _ _ h => runF_len h) (ok_law_debts T) (hr.mono (by decide)) (by rfl) T.g_law_debts T.F_law_debts.kp T.b_law_debts (da_cons (dt_fz (dt_sl (dv_v 0) (do_some dt_int) (do_some dt_int))) (da_cons (dt_v 1) (da_cons (dt_v 2) da_nil)))))
      (dss_cons (ds_set (i := 4) nd rfl (by first | exact Or.inl rfl | exact Or.inr rfl) (dt_call (n := 2) (φ := phi_law_mixed) (fun _ _ h => runF_len h) (ok_law_mixed T) (hr.mono (by decide)) (by rfl) T.g_law_mixed T.F_law_mixed.kp T.b_law_mixed (da_cons (dt_call (n := 2) (φ := phi_law_cell) (fun _ _ h => runF_len h) (ok_law_cell T) (hr.mono (by decide)) (by rfl) T.g_law_cell T.F_law_cell.kp T.b_law_cell (da_cons (dt_v 0) (da_cons dt_int da_nil))) (da_cons dt_int da_nil))))
      (dss_cons (ds_set (i := 5) nd rfl (by first | exact Or.inl rfl | exact Or.inr rfl) (DV.dt (dv_ix (DT.dv (dt_lst (da_cons dt_int (da_cons dt_int (da_cons dt_int (da_cons dt_int (da_cons dt_int (da_cons (dt_mod (dt_div (dt_v 4) dt_int) dt_int) (da_cons (dt_mod (dt_div (dt_v 4) dt_int) dt_int) da_nil))))))))) (dt_mod (dt_v 4) dt_int))))
      (dss_cons (ds_setLc (i := 6) (own := [("_law_name", 7), ("_law_pool", 8), ("_law_plan_here", 9)]) rfl nd rfl rfl (sw_true rfl rfl rfl (by decide +kernel)) (di_list (dt_v 3)) (blkOk_by (own := [("_law_name", 7), ("_law_pool", 8), ("_law_plan_here", 9)]) (N := N_law) (sc := defScope s_law) (by decide +kernel)) (fun _ _ _ _ _ => (dg_tup rfl (dgs_cons (dg_name (i := 7) nd rfl (by first | exact Or.inl rfl | exact Or.inr rfl)) (dgs_cons (dg_name (i := 8) nd rfl (by first | exact Or.inl rfl | exact Or.inr rfl)) (dgs_cons (dg_name (i := 9) nd rfl (by first | exact Or.inl rfl | exact Or.inr rfl)) dgs_nil))))) (fun _ _ _ _ _ => dts_nil) (fun _ _ _ _ _ => (dt_tup (da_cons (dt_v 7) (da_cons (dt_v 8) (da_cons (dt_list (by rfl) T.m_list (dv_v 9)) da_nil))))) (by decide))
      (dss_cons (ds_set (i := 10) nd rfl (by first | exact Or.inl rfl | exact Or.inr rfl) (dt_call (n := 3) (φ := phi_told_days) (fun _ _ h => runF_len h) (ok_told_days T) (hr.mono (by decide)) (by rfl) T.g_told_days T.F_told_days.kp T.b_told_days (da_cons (dt_v 6) (da_cons (dt_fz (dt_lst da_nil)) (da_cons (dt_v 5) da_nil)))))
      (dss_cons (ds_set (i := 11) nd rfl (by first | exact Or.inl rfl | exact Or.inr rfl) (dt_lst da_nil))
      (dss_cons (ds_for PassesOwn.never rfl (di_range2 (by rfl) T.m_range (da_cons dt_int (da_cons (dt_add (dt_v 5) dt_int) da_nil))) (dg_name (i := 12) nd rfl (by first | exact Or.inl rfl | exact Or.inr rfl)) (dss_cons (ds_set (i := 13) nd rfl (by first | exact Or.inl rfl | exact Or.inr rfl) (dt_lst da_nil))
      (dss_cons (ds_for PassesOwn.never rfl (di_list (dt_v 3)) (dg_tup rfl (dgs_cons (dg_name (i := 7) nd rfl (by first | exact Or.inl rfl | exact Or.inr rfl)) (dgs_cons (dg_name (i := 8) nd rfl (by first | exact Or.inl rfl | exact Or.inr rfl)) (dgs_cons (dg_name (i := 9) nd rfl (by first | exact Or.inl rfl | exact Or.inr rfl)) dgs_nil)))) (dss_one (ds_extP (dp_name 13) (dt_comp (own := [("_law_when", 14), ("_law_coins_here", 15)]) rfl nd (di_list (dt_v 9)) (blkOk_by (own := [("_law_when", 14), ("_law_coins_here", 15)]) (N := N_law) (sc := defScope s_law) (by decide +kernel)) (fun _ _ _ _ _ => (dg_tup rfl (dgs_cons (dg_name (i := 14) nd rfl (by first | exact Or.inl rfl | exact Or.inr rfl)) (dgs_cons (dg_name (i := 15) nd rfl (by first | exact Or.inl rfl | exact Or.inr rfl)) dgs_nil)))) (fun _ _ _ _ _ => (dts_one (dc_eq hr.units (dv_v 14) (dv_v 12)))) (fun _ _ _ _ _ => (dt_tup (da_cons (dt_v 7) (da_cons (dt_v 15) da_nil)))) (by decide)))))
      (dss_one (ds_app 11 (dt_fz (dt_tup (da_cons (dt_v 13) (da_cons (dt_lst da_nil) da_nil)))))))))
      (dss_cons (ds_set (i := 16) nd rfl (by first | exact Or.inl rfl | exact Or.inr rfl) (dt_lst da_nil))
      (dss_cons (ds_for PassesOwn.never rfl (di_list (dt_v 3)) (dg_tup rfl (dgs_cons (dg_name (i := 7) nd rfl (by first | exact Or.inl rfl | exact Or.inr rfl)) (dgs_cons (dg_name (i := 8) nd rfl (by first | exact Or.inl rfl | exact Or.inr rfl)) (dgs_cons (dg_name (i := 9) nd rfl (by first | exact Or.inl rfl | exact Or.inr rfl)) dgs_nil)))) (dss_cons (ds_set (i := 15) nd rfl (by first | exact Or.inl rfl | exact Or.inr rfl) (dt_sum rfl (by rfl) T.m_sum (DT.dv (dt_comp (own := [("_law_pair", 17)]) rfl nd (di_list (dt_v 9)) (blkOk_by (own := [("_law_pair", 17)]) (N := N_law) (sc := defScope s_law) (by decide +kernel)) (fun _ _ _ _ _ => (dg_name (i := 17) nd rfl (by first | exact Or.inl rfl | exact Or.inr rfl))) (fun _ _ _ _ _ => (dts_one (dc_gt (dv_ix (dv_v 17) dt_int) (dv_v 5)))) (fun _ _ _ _ _ => (DV.dt (dv_ix (dv_v 17) dt_int))) (by decide)))))
      (dss_one (ds_if (dc_gt (dv_v 15) (DT.dv dt_int)) (dss_one (ds_app 16 (dt_fz (dt_tup (da_cons (dt_v 7) (da_cons (dt_v 15) da_nil)))))) dss_nil))))
      (dss_cons (ds_if (dc_not (dc_val (dt_callB (n := 2) (φ := (phi_law_alike 8)) (fun _ _ h => runF_len h) (ok_law_alike T 8) (hr.mono (by decide)) (by rfl) T.g_law_alike T.F_law_alike.kp T.b_law_alike (dvs_cons (dv_v 10) (dvs_cons (DT.dv (dt_tup (da_cons (dt_v 11) (da_cons (dt_v 16) da_nil)))) dvs_nil))))) (dss_one (ds_ret dt_bl)) dss_nil)
      (dss_cons (ds_appP (dp_ix (dp_name 10) dt_int) dt_int)
      (dss_cons (ds_appP (dp_ix (dp_name 10) dt_int) dt_int)
      (dss_one (ds_ret (dt_and (dt_eq hr.units (dv_v 6) (dv_v 3)) (dt_one (dt_call (n := 2) (φ := (phi_law_alike 8)) (fun _ _ h => runF_len h) (ok_law_alike T 8) (hr.mono (by decide)) (by rfl) T.g_law_alike T.F_law_alike.kp T.b_law_alike (da_cons (dt_fz (dt_call (n := 3) (φ := phi_told_days) (fun _ _ h => runF_len h) (ok_told_days T) (hr.mono (by decide)) (by rfl) T.g_told_days T.F_told_days.kp T.b_told_days (da_cons (dt_v 6) (da_cons (dt_fz (dt_lst da_nil)) (da_cons (dt_v 5) da_nil))))) (da_cons (dt_fz (dt_tup (da_cons (dt_v 11) (da_cons (dt_v 16) da_nil)))) da_nil)))))))))))))))))))))⟩
end
theorem all_mk {l : PySem.W.OpenLaw} {w : World} {K : PySem.W.Frag} {h : Heap} {mg : Str → Option Value} {fa : Addr} {f_event_done f_one_day f_told_days f_law_cell f_law_mixed f_law_names f_law_coins f_law_alike f_law_plan f_law_debts f_law : Addr} (X : K.In h) (G : h.Ns mainGlobals mg) (hfa : mg "law" = some (.ref fa))
    {od1 an1 od2 an2 od3 an3 od4 an4 od5 an5 od6 an6 od7 an7 od8 an8 od9 an9 od10 an10 od11 an11 : Option Addr} {sl1 sl2 sl3 sl4 sl5 sl6 sl7 sl8 sl9 sl10 sl11 : Array (Option Value)} {oc1 kV1 dc1 pm1 cd1 ct1 oc2 kV2 dc2 pm2 cd2 ct2 oc3 kV3 dc3 pm3 cd3 ct3 oc4 kV4 dc4 pm4 cd4 ct4 oc5 kV5 dc5 pm5 cd5 ct5 oc6 kV6 dc6 pm6 cd6 ct6 oc7 kV7 dc7 pm7 cd7 ct7 oc8 kV8 dc8 pm8 cd8 ct8 oc9 kV9 dc9 pm9 cd9 ct9 oc10 kV10 dc10 pm10 cd10 ct10 oc11 kV11 dc11 pm11 cd11 ct11 : Value}
    (a1 : PySem.W.nsIn K mainGlobals "event_done" = some (some (.ref f_event_done))) (l1 : K.lookup f_event_done = some ⟨oc1, od1, .func (PySem.W.fnOf "event_done" "event_done" (defArgs s_event_done) (defBody s_event_done) (defScope s_event_done) .none kV1 dc1 pm1 an1 cd1 ct1), sl1⟩) (c1 : PySem.W.codeIn K cd1 "event_done" = true) (k1 : PySem.W.keepIn K (.ref f_event_done) = true)
    (a2 : PySem.W.nsIn K mainGlobals "one_day" = some (some (.ref f_one_day))) (l2 : K.lookup f_one_day = some ⟨oc2, od2, .func (PySem.W.fnOf "one_day" "one_day" (defArgs s_one_day) (defBody s_one_day) (defScope s_one_day) .none kV2 dc2 pm2 an2 cd2 ct2), sl2⟩) (c2 : PySem.W.codeIn K cd2 "one_day" = true) (k2 : PySem.W.keepIn K (.ref f_one_day) = true)
    (a3 : PySem.W.nsIn K mainGlobals "told_days" = some (some (.ref f_told_days))) (l3 : K.lookup f_told_days = some ⟨oc3, od3, .func (PySem.W.fnOf "told_days" "told_days" (defArgs s_told_days) (defBody s_told_days) (defScope s_told_days) .none kV3 dc3 pm3 an3 cd3 ct3), sl3⟩) (c3 : PySem.W.codeIn K cd3 "told_days" = true) (k3 : PySem.W.keepIn K (.ref f_told_days) = true)
    (a4 : PySem.W.nsIn K mainGlobals "_law_cell" = some (some (.ref f_law_cell))) (l4 : K.lookup f_law_cell = some ⟨oc4, od4, .func (PySem.W.fnOf "_law_cell" "_law_cell" (defArgs s_law_cell) (defBody s_law_cell) (defScope s_law_cell) .none kV4 dc4 pm4 an4 cd4 ct4), sl4⟩) (c4 : PySem.W.codeIn K cd4 "_law_cell" = true) (k4 : PySem.W.keepIn K (.ref f_law_cell) = true)
    (a5 : PySem.W.nsIn K mainGlobals "_law_mixed" = some (some (.ref f_law_mixed))) (l5 : K.lookup f_law_mixed = some ⟨oc5, od5, .func (PySem.W.fnOf "_law_mixed" "_law_mixed" (defArgs s_law_mixed) (defBody s_law_mixed) (defScope s_law_mixed) .none kV5 dc5 pm5 an5 cd5 ct5), sl5⟩) (c5 : PySem.W.codeIn K cd5 "_law_mixed" = true) (k5 : PySem.W.keepIn K (.ref f_law_mixed) = true)
    (a6 : PySem.W.nsIn K mainGlobals "_law_names" = some (some (.ref f_law_names))) (l6 : K.lookup f_law_names = some ⟨oc6, od6, .func (PySem.W.fnOf "_law_names" "_law_names" (defArgs s_law_names) (defBody s_law_names) (defScope s_law_names) .none kV6 dc6 pm6 an6 cd6 ct6), sl6⟩) (c6 : PySem.W.codeIn K cd6 "_law_names" = true) (k6 : PySem.W.keepIn K (.ref f_law_names) = true)
    (a7 : PySem.W.nsIn K mainGlobals "_law_coins" = some (some (.ref f_law_coins))) (l7 : K.lookup f_law_coins = some ⟨oc7, od7, .func (PySem.W.fnOf "_law_coins" "_law_coins" (defArgs s_law_coins) (defBody s_law_coins) (defScope s_law_coins) .none kV7 dc7 pm7 an7 cd7 ct7), sl7⟩) (c7 : PySem.W.codeIn K cd7 "_law_coins" = true) (k7 : PySem.W.keepIn K (.ref f_law_coins) = true)
    (a8 : PySem.W.nsIn K mainGlobals "_law_alike" = some (some (.ref f_law_alike))) (l8 : K.lookup f_law_alike = some ⟨oc8, od8, .func (PySem.W.fnOf "_law_alike" "_law_alike" (defArgs s_law_alike) (defBody s_law_alike) (defScope s_law_alike) .none kV8 dc8 pm8 an8 cd8 ct8), sl8⟩) (c8 : PySem.W.codeIn K cd8 "_law_alike" = true) (k8 : PySem.W.keepIn K (.ref f_law_alike) = true)
    (a9 : PySem.W.nsIn K mainGlobals "_law_plan" = some (some (.ref f_law_plan))) (l9 : K.lookup f_law_plan = some ⟨oc9, od9, .func (PySem.W.fnOf "_law_plan" "_law_plan" (defArgs s_law_plan) (defBody s_law_plan) (defScope s_law_plan) .none kV9 dc9 pm9 an9 cd9 ct9), sl9⟩) (c9 : PySem.W.codeIn K cd9 "_law_plan" = true) (k9 : PySem.W.keepIn K (.ref f_law_plan) = true)
    (a10 : PySem.W.nsIn K mainGlobals "_law_debts" = some (some (.ref f_law_debts))) (l10 : K.lookup f_law_debts = some ⟨oc10, od10, .func (PySem.W.fnOf "_law_debts" "_law_debts" (defArgs s_law_debts) (defBody s_law_debts) (defScope s_law_debts) .none kV10 dc10 pm10 an10 cd10 ct10), sl10⟩) (c10 : PySem.W.codeIn K cd10 "_law_debts" = true) (k10 : PySem.W.keepIn K (.ref f_law_debts) = true)
    (a11 : PySem.W.nsIn K mainGlobals "law" = some (some (.ref f_law))) (l11 : K.lookup f_law = some ⟨oc11, od11, .func (PySem.W.fnOf "law" "law" (defArgs s_law) (defBody s_law) (defScope s_law) .none kV11 dc11 pm11 an11 cd11 ct11), sl11⟩) (c11 : PySem.W.codeIn K cd11 "law" = true) (k11 : PySem.W.keepIn K (.ref f_law) = true)
    (z1 : PySem.W.nsIn K mainGlobals "list" = some none)
    (z2 : PySem.W.nsIn K mainGlobals "sum" = some none)
    (z3 : PySem.W.nsIn K mainGlobals "dict" = some none)
    (z4 : PySem.W.nsIn K mainGlobals "range" = some none)
    (z5 : PySem.W.nsIn K mainGlobals "len" = some none)
    (z6 : PySem.W.nsIn K mainGlobals "isinstance" = some none)
    (z7 : PySem.W.nsIn K mainGlobals "bool" = some none)
    (z8 : PySem.W.nsIn K mainGlobals "int" = some none)
    (z9 : PySem.W.nsIn K mainGlobals "str" = some none)
    (z10 : PySem.W.nsIn K mainGlobals "tuple" = some none)
    (z11 : PySem.W.nsIn K mainGlobals "enumerate" = some none)
    : ∃ fd : FuncData, (∀ (s : Shared) (v : Value), BindsTo s fd ⟨[v], []⟩ [("_law_script", v)]) ∧ ∀ (K' : PySem.W.Frag) (base : Heap), Less K K' → FnOk l.prog w K' mg base CX0 10 fa fd ["_law_script"] (spD 1 phi_law K') := by
  have e := hfa.symm.trans (PySem.W.mg_of X G a11)
  cases e
  have E1 := fun_mk (st := s_event_done) l1 c1 k1
  have E2 := fun_mk (st := s_one_day) l2 c2 k2
  have E3 := fun_mk (st := s_told_days) l3 c3 k3
  have E4 := fun_mk (st := s_law_cell) l4 c4 k4
  have E5 := fun_mk (st := s_law_mixed) l5 c5 k5
  have E6 := fun_mk (st := s_law_names) l6 c6 k6
  have E7 := fun_mk (st := s_law_coins) l7 c7 k7
  have E8 := fun_mk (st := s_law_alike) l8 c8 k8
  have E9 := fun_mk (st := s_law_plan) l9 c9 k9
  have E10 := fun_mk (st := s_law_debts) l10 c10 k10
  have E11 := fun_mk (st := s_law) l11 c11 k11
  refine ⟨PySem.W.fnOf "law" "law" (defArgs s_law) (defBody s_law) (defScope s_law) .none kV11 dc11 pm11 an11 cd11 ct11, fun s v => .of_eq rfl, fun K' base Ls => ?_⟩
  have F1 := Ls.fun E1
  have F2 := Ls.fun E2
  have F3 := Ls.fun E3
  have F4 := Ls.fun E4
  have F5 := Ls.fun E5
  have F6 := Ls.fun E6
  have F7 := Ls.fun E7
  have F8 := Ls.fun E8
  have F9 := Ls.fun E9
  have F10 := Ls.fun E10
  have F11 := Ls.fun E11
  have T : Txt K' mg _ _ _ _ _ _ _ _ _ _ _ _ _ _ _ _ _ _ _ _ _ _ := ⟨F1, F1.binds (ps := ["plans", "event"]) (fun _ _ _ _ _ _ us hl => match us, hl with | [_, _], _ => rfl), PySem.W.mg_of X G a1,
    F2, F2.binds (ps := ["plans", "events", "day"]) (fun _ _ _ _ _ _ us hl => match us, hl with | [_, _, _], _ => rfl), PySem.W.mg_of X G a2,
    F3, F3.binds (ps := ["debts", "events", "many"]) (fun _ _ _ _ _ _ us hl => match us, hl with | [_, _, _], _ => rfl), PySem.W.mg_of X G a3,
    F4, F4.binds (ps := ["_law_script", "_law_k"]) (fun _ _ _ _ _ _ us hl => match us, hl with | [_, _], _ => rfl), PySem.W.mg_of X G a4,
    F5, F5.binds (ps := ["_law_cell_here", "_law_k"]) (fun _ _ _ _ _ _ us hl => match us, hl with | [_, _], _ => rfl), PySem.W.mg_of X G a5,
    F6, F6.binds (ps := ["_law_cell_here", "_law_many"]) (fun _ _ _ _ _ _ us hl => match us, hl with | [_, _], _ => rfl), PySem.W.mg_of X G a6,
    F7, F7.binds (ps := ["_law_cell_here", "_law_way", "_law_most"]) (fun _ _ _ _ _ _ us hl => match us, hl with | [_, _, _], _ => rfl), PySem.W.mg_of X G a7,
    F8, F8.binds (ps := ["_law_found", "_law_due"]) (fun _ _ _ _ _ _ us hl => match us, hl with | [_, _], _ => rfl), PySem.W.mg_of X G a8,
    F9, F9.binds (ps := ["_law_cell_here", "_law_k"]) (fun _ _ _ _ _ _ us hl => match us, hl with | [_, _], _ => rfl), PySem.W.mg_of X G a9,
    F10, F10.binds (ps := ["_law_cells", "_law_names_here", "_law_pools"]) (fun _ _ _ _ _ _ us hl => match us, hl with | [_, _, _], _ => rfl), PySem.W.mg_of X G a10,
    F11, F11.binds (ps := ["_law_script"]) (fun _ _ _ _ _ _ us hl => match us, hl with | [_], _ => rfl), PySem.W.mg_of X G a11,
    PySem.W.mg_none_of X G z1,
    PySem.W.mg_none_of X G z2,
    PySem.W.mg_none_of X G z3,
    PySem.W.mg_none_of X G z4,
    PySem.W.mg_none_of X G z5,
    PySem.W.mg_none_of X G z6,
    PySem.W.mg_none_of X G z7,
    PySem.W.mg_none_of X G z8,
    PySem.W.mg_none_of X G z9,
    PySem.W.mg_none_of X G z10,
    PySem.W.mg_none_of X G z11⟩
  exact ok_law T
end K14

set_option Elab.async false
set_option linter.all false
set_option maxRecDepth 100000
set_option maxHeartbeats 4000000
namespace LW
open PySem PySem.Spec PyProof.Rows L2 DL
def B_all_among_1 : SF :=
  (sIf (cT (eCmp notInQ (eB 2) (eB 1))) (sRet (eC (.bl false))) sNx)
def F_all_among : SF :=
  (sSeq (sFor (iSg (eV 0)) (gNm 2) B_all_among_1)
  (sRet (eC (.bl true))))
def phi_all_among : List D → Option T := runF 3 2 F_all_among
def F_is_keyword : SF :=
  (sSeq (sSet 1 (eC (.str (PySem.Str.ofString "pool claim pot eat order part pay share repay fill lend back rest look guard debt on late early quit"))))
  (sRet (eCmp inQ (eB 0) (eSplit (eV 1) (eC (.str (PySem.Str.ofString " ")))))))
def phi_is_keyword : List D → Option T := runF 2 1 F_is_keyword
def F_is_name : SF :=
  (sSeq (sIf (cT (eCall phi_is_keyword (aC (eV 0) aN))) (sRet (eC (.bl false))) sNx)
  (sRet (eAnd (eChain bLe bLe (eC (.int 1)) (eB1 gLen (eB 0)) (eC (.int 8))) (eCall phi_all_among (aC (eV 0) (aC (eC (.str (PySem.Str.ofString "abcdefghijklmnopqrstuvwxyz"))) aN))))))
def phi_is_name : List D → Option T := runF 1 1 F_is_name
def F_number_in : SF :=
  (sSeq (sIf (cOr (cNot (cT (eChain bLe bLe (eC (.int 1)) (eB1 gLen (eB 0)) (eC (.int 13))))) (cNot (cT (eCall phi_all_among (aC (eV 0) (aC (eC (.str (PySem.Str.ofString "0123456789"))) aN)))))) (sRet (eC .non)) sNx)
  (sSeq (sIf (cAnd (cT (eM1 gStarts (eV 0) (eC (.str (PySem.Str.ofString "0"))))) (cT (eCmp neQ (eB 0) (eC (.str (PySem.Str.ofString "0")))))) (sRet (eC .non)) sNx)
  (sRet (eB1 gInt (eB 0)))))
def phi_number_in : List D → Option T := runF 1 1 F_number_in
def F_number_up_to : SF :=
  (sSeq (sSet 3 (eCall phi_number_in (aC (eV 0) aN)))
  (sSeq (sIf (cOr (cT (eCmp isN (eB 3) (eC .non))) (cNot (cT (eChain bLe bLe (eC (.int 1)) (eV 3) (eV 1))))) sNo sNx)
  (sRet (eM 3))))
def phi_number_up_to : List D → Option T := runF 4 3 F_number_up_to
def F_name_at : SF :=
  (sSeq (sIf (cNot (cT (eCall phi_is_name (aC (eV 0) aN)))) sNo sNx)
  (sRet (eM 0)))
def phi_name_at : List D → Option T := runF 2 2 F_name_at
def F_words_wanted : SF :=
  (sSeq (sIf (cOr (cT (eCmp eqQ (eB 0) (eC (.str (PySem.Str.ofString "debt"))))) (cOr (cT (eCmp eqQ (eB 0) (eC (.str (PySem.Str.ofString "on"))))) (cOr (cT (eCmp eqQ (eB 0) (eC (.str (PySem.Str.ofString "early"))))) (cT (eCmp eqQ (eB 0) (eC (.str (PySem.Str.ofString "quit")))))))) (sRet (eC (.int 3))) sNx)
  (sSeq (sIf (cT (eCmp eqQ (eB 0) (eC (.str (PySem.Str.ofString "late"))))) (sRet (eC (.int 4))) sNx)
  (sRet (eC (.int 0)))))
def phi_words_wanted : List D → Option T := runF 1 1 F_words_wanted
def F_debt_row_of : SF :=
  (sSeq (sSet 2 (eComp [3] (iL (eFz (eSplit (eV 0) (eC (.str (PySem.Str.ofString " ")))))) (gNm 3) (cT (eCmp neQ (eB 3) (eC (.str (PySem.Str.ofString ""))))) (eV 3)))
  (sSeq (sIf (cT (eCmp eqQ (eB1 gLen (eB 2)) (eC (.int 0)))) (sRet (eC .non)) sNx)
  (sSeq (sIf (cT (eCmp neQ (eB1 gLen (eB 2)) (eCall phi_words_wanted (aC (eW (eIx (eB 2) (eC (.int 0)))) aN)))) sNo sNx)
  (sSeq (sIf (cT (eCmp eqQ (eIx (eB 2) (eC (.int 0))) (eC (.str (PySem.Str.ofString "debt"))))) (sRet (eL (aC (eC (.str (PySem.Str.ofString "debt"))) (aC (eCall phi_name_at (aC (eW (eIx (eB 2) (eC (.int 1)))) (aC (eV 1) aN))) (aC (eCall phi_name_at (aC (eW (eIx (eB 2) (eC (.int 2)))) (aC (eV 1) aN))) aN))))) sNx)
  (sSeq (sIf (cT (eCmp eqQ (eIx (eB 2) (eC (.int 0))) (eC (.str (PySem.Str.ofString "on"))))) (sSeq (sSet 4 (eCall phi_number_up_to (aC (eW (eIx (eB 2) (eC (.int 1)))) (aC (eC (.int 60)) (aC (eV 1) aN)))))
  (sRet (eL (aC (eC (.str (PySem.Str.ofString "on"))) (aC (eM 4) (aC (eCall phi_number_up_to (aC (eW (eIx (eB 2) (eC (.int 2)))) (aC (eC (.int 1000000000000)) (aC (eV 1) aN)))) aN)))))) sNx)
  (sSeq (sSet 5 (eL (aC (eW (eIx (eB 2) (eC (.int 0)))) (aC (eCall phi_name_at (aC (eW (eIx (eB 2) (eC (.int 1)))) (aC (eV 1) aN))) (aC (eCall phi_number_up_to (aC (eW (eIx (eB 2) (eC (.int 2)))) (aC (eC (.int 60)) (aC (eV 1) aN)))) aN)))))
  (sSeq (sIf (cT (eCmp eqQ (eIx (eB 2) (eC (.int 0))) (eC (.str (PySem.Str.ofString "late"))))) (sApp 5 (eCall phi_number_up_to (aC (eW (eIx (eB 2) (eC (.int 3)))) (aC (eC (.int 30)) (aC (eV 1) aN))))) sNx)
  (sRet (eM 5)))))))))
def phi_debt_row_of : List D → Option T := runF 6 2 F_debt_row_of
def F_law_mixed : SF :=
  (sSeq (sSet 2 (eOp gMod (eOp gAdd (eOp gMul (eOp gMod (eV 0) (eC (.int 2147483647))) (eC (.int 48271))) (eOp gMul (eOp gAdd (eOp gAdd (eOp gMul (eV 1) (eV 1)) (eOp gMul (eC (.int 3)) (eV 1))) (eC (.int 7))) (eC (.int 69621)))) (eC (.int 2147483647))))
  (sRet (eOp gMod (eOp gMul (eV 2) (eV 2)) (eC (.int 2147483647)))))
def phi_law_mixed : List D → Option T := runF 3 2 F_law_mixed
def B_law_names_1 : SF :=
  (sSeq (sSet 9 (eComp [10] (iR1 (aC (eV 6) aN)) (gNm 10) cYes (eV 3)))
  (sSeq (sPut 9 (eV 7) (eW (eIx (eB 4) (eOp gMod (eOp gAdd (eOp gDiv (eV 2) (eC (.int 4200))) (eOp gMul (eC (.int 3)) (eV 5))) (eC (.int 20))))))
  (sSeq (sPut 9 (eOp gMod (eOp gAdd (eV 7) (eC (.int 1))) (eV 6)) (eW (eIx (eB 4) (eOp gMod (eOp gAdd (eOp gDiv (eV 2) (eC (.int 84000))) (eOp gDiv (eV 5) (eC (.int 20)))) (eC (.int 20))))))
  (sApp 8 (eJoin (eC (.str (PySem.Str.ofString ""))) (eB 9))))))
def F_law_names : SF :=
  (sSeq (sSet 2 (eCall phi_law_mixed (aC (eV 0) (aC (eC (.int 3)) aN))))
  (sSeq (sSet 3 (eW (eIx (eC (.str (PySem.Str.ofString "abcdefghijklmnpqrstuvwxyz"))) (eOp gMod (eV 2) (eC (.int 25))))))
  (sSeq (sSet 4 (eC (.str (PySem.Str.ofString "bcdfghjklmnpqrstvwxz"))))
  (sSeq (sIf (cAnd (cT (eCmp eqQ (eOp gMod (eOp gDiv (eV 2) (eC (.int 25))) (eC (.int 3))) (eC (.int 0)))) (cT (eCmp cLt (eB 1) (eC (.int 9))))) (sRet (eComp [5] (iR1 (aC (eV 1) aN)) (gNm 5) cYes (eOp gMulA (eV 3) (eOp gSub (eV 1) (eV 5))))) sNx)
  (sSeq (sSet 6 (eOp gAdd (eC (.int 2)) (eOp gMod (eOp gDiv (eV 2) (eC (.int 75))) (eC (.int 7)))))
  (sSeq (sSet 7 (eOp gMod (eOp gDiv (eV 2) (eC (.int 525))) (eV 6)))
  (sSeq (sSet 8 (eL aN))
  (sSeq (sFor (iR1 (aC (eV 1) aN)) (gNm 5) B_law_names_1)
  (sRet (eM 8))))))))))
def phi_law_names : List D → Option T := runF 11 2 F_law_names
def F_law_coins : SF :=
  (sSeq (sIf (cT (eCmp eqQ (eOp gMod (eV 1) (eC (.int 5))) (eC (.int 0)))) (sRet (eC (.int 1))) sNx)
  (sSeq (sIf (cT (eCmp eqQ (eOp gMod (eV 1) (eC (.int 5))) (eC (.int 1)))) (sRet (eM 2)) sNx)
  (sSeq (sIf (cT (eCmp eqQ (eOp gMod (eV 1) (eC (.int 5))) (eC (.int 2)))) (sRet (eOp gAdd (eC (.int 1)) (eOp gMod (eV 0) (eC (.int 7))))) sNx)
  (sSeq (sIf (cT (eCmp eqQ (eOp gMod (eV 1) (eC (.int 5))) (eC (.int 3)))) (sRet (eOp gAdd (eC (.int 1)) (eOp gMod (eV 0) (eV 2)))) sNx)
  (sRet (eOp gAdd (eC (.int 1)) (eOp gMod (eOp gMul (eOp gMul (eOp gAdd (eOp gMod (eV 0) (eV 2)) (eC (.int 1))) (eOp gAdd (eV 1) (eC (.int 48271)))) (eC (.int 99999999999999997))) (eV 2))))))))
def phi_law_coins : List D → Option T := runF 3 3 F_law_coins
def B_law_spaced_1 : SF :=
  (sSeq (sIf (cT (eCmp cGt (eB 3) (eC (.int 0)))) (sSet 2 (eOp gAdd (eV 2) (eOp gMulA (eC (.str (PySem.Str.ofString " "))) (eOp gAdd (eC (.int 1)) (eOp gMod (eOp gDiv (eV 1) (eOp gAdd (eC (.int 3)) (eV 3))) (eC (.int 3))))))) sNx)
  (sSet 2 (eOp gAdd (eV 2) (eV 4))))
def F_law_spaced : SF :=
  (sSeq (sSet 2 (eOp gMulA (eC (.str (PySem.Str.ofString " "))) (eOp gMod (eV 1) (eC (.int 3)))))
  (sSeq (sFor (iEn (aC (eV 0) aN)) (gTp 2 (gAnd (gNm 3) (gAnd (gNm 4) gEnd))) B_law_spaced_1)
  (sRet (eOp gAdd (eV 2) (eOp gMulA (eC (.str (PySem.Str.ofString " "))) (eOp gMod (eOp gDiv (eV 1) (eC (.int 7))) (eC (.int 3))))))))
def phi_law_spaced : List D → Option T := runF 5 2 F_law_spaced
def B_law_alike_1 (φ : List D → Option T) : SF :=
  (sIf (cNot (cT (eCall φ (aC (eW (eIx (eB 0) (eV 2))) (aC (eW (eIx (eB 1) (eV 2))) aN))))) (sRet (eC (.bl false))) sNx)
def F_law_alike (φ : List D → Option T) : SF :=
  (sSeq (sIf (cT (eCmp isN (eB 1) (eC .non))) (sRet (eCmp isN (eB 0) (eC .non))) sNx)
  (sSeq (sIf (cT (eIsi "bool" (eB 1))) (sRet (eAnd (eIsi "bool" (eB 0)) (eCmp eqQ (eB 0) (eB 1)))) sNx)
  (sSeq (sIf (cT (eIsi "int" (eB 1))) (sRet (eAnd (eIsi "int" (eB 0)) (eAnd (eNot (eIsi "bool" (eB 0))) (eCmp eqQ (eB 0) (eB 1))))) sNx)
  (sSeq (sIf (cT (eIsi "str" (eB 1))) (sRet (eAnd (eIsi "str" (eB 0)) (eCmp eqQ (eB 0) (eB 1)))) sNx)
  (sSeq (sIf (cAnd (cT (eIsi "tuple" (eB 1))) (cNot (cT (eIsi "tuple" (eB 0))))) (sRet (eC (.bl false))) sNx)
  (sSeq (sIf (cAnd (cT (eIsi "list" (eB 1))) (cNot (cT (eIsi "list" (eB 0))))) (sRet (eC (.bl false))) sNx)
  (sSeq (sIf (cT (eCmp neQ (eB1 gLen (eB 0)) (eB1 gLen (eB 1)))) (sRet (eC (.bl false))) sNx)
  (sSeq (sFor (iR1 (aC (eB1 gLen (eB 1)) aN)) (gNm 2) (B_law_alike_1 φ))
  (sRet (eC (.bl true)))))))))))
def phi_law_alike : Nat → List D → Option T
  | 0 => fun _ => none
  | n + 1 => runF 3 2 (F_law_alike (phi_law_alike n))
end LW

set_option Elab.async false
set_option linter.all false
set_option maxRecDepth 100000
set_option maxHeartbeats 2000000
/-! What the package's words (names, numbers, rows cut at blanks) and the laws' common helpers give. -/
namespace LW
open PySem PySem.Spec PyProof.Rows L2 DL
/-- the keywords -/
def ks : List Str := Txt.split (sg (cod "pool claim pot eat order part pay share repay fill lend back rest look guard debt on late early quit")) (sg (cod " "))
theorem ks_if : ((sg (cod " ")).length == 0) = false ∧ (sg (cod "pool claim pot eat order part pay share repay fill lend back rest look guard debt on late early quit")).length + 2 ≤ 16777216 := by decide +kernel
theorem ks_ok : ks.length = 20 ∧ ∀ s ∈ ks, s.length ≤ 6 := by decide +kernel
theorem ks_fold : Txt.split (sg (cod "pool claim pot eat order part pay share repay fill lend back rest look guard debt on late early quit")) (sg (cod " ")) = ks := rfl
theorem iskw_ok (w : List Nat) : phi_is_keyword [.str (sg w)] = some (.p (.bl (decide (sg w ∈ ks)))) := by
  unfold phi_is_keyword F_is_keyword
  simp (disch := omega) only [ks_if, ks_fold, inQ_strs, ↓reduceIte, and_self, bindS, mapS, eV_q, kV_p, kV_l, kV_t, eM_q, kM_s, eB_q, kB_s, eC_q, eW_q, kW_p, aN_q, aC_q, kAC_q, kCons_q, aMv_q, kMv_s, kMv2_q, kMv3_s, eL_q, kL_q, eT_q, kT_q, kP_q, kBl_q, kT2_q, eFz_q, kFz_q, eOp_q, kOp1_q, kOp2_q, eCmp_q, kCm1_q, kCm2_q, eNeg_q, kNeg_q, eChain_q, kCh1_q, kCh2_q, kCh3_q, cT_q, kcT_q, cNot_q, kNot_q, cAnd_q, kcAnd_t, kcAnd_f, cOr_q, kcOr_t, kcOr_f, eIf_q, keIf_t, keIf_f, eAnd_q, keAnd_t, keAnd_f, eOr_q, keOr_t, keOr_f, eNot_q, keNot_q, sIf_q, kcIf_t, kcIf_f, eB1_q, kB1_q, eI2_q, kI2_q, eIsi_q, kIsi_q, kLst_q, eList_q, kList_q, kTpl_q, eTuple_q, kTuple_q, eCall_q, kCall_q, kCall2_q, eCallB_q, kCallB_q, kCl_q, allP_n, allP_c, eIx_q, kIx1_q, kIx2_q, oN_q, oS_q, koS_q, eSl_q, kSl1_q, kSl2_q, kSl3_q, cutT_p, cutT_l, sNx_q, sBk_q, sCt_q, sRetN_q, sSeq_q, kSeq_n, kSeq_r, kSeq_b, kSeq_c, sRet_q, kRet_q, sSet_q, kSet_q, sDrop_q, kDrop_q, gNm_q, gEnd_q, gAnd_q, gTp_q, kTp_q, partsT_p, partsT_t, kNx_q, sAsg_q, kAsg_q, sFor_q, kFor_q, loop_n, loop_c, kLp1_q, kLp2_n, kLp2_c, kLp2_b, kLp2_r, iL_q, kiL_q, iTp_q, kiTp_q, iSg_q, kiSg_q, iR1_q, kR1_q, iR2_q, kR2_q, iEn_q, kEn_q, iZp_q, kZp_q, kZp_t, sForV_q, kForV_q, kForV1_q, kForV2_n, kForV2_r, atL_q, kAtL_q, sApp_q, kApp_q, kApp1_q, kApp2_q, sPut_q, kPut_q, kPut1_q, kPut2_q, kPut3_q, kPut4_q, kPutEnd_q, asI_q, sAugIx_q, kAx_q, kAx0_q, kAx1_q, kAx2_q, kAx3_q, kAx4_q, kAx5_q, kAx6_q, kAx7_q, kAx8_q, sAug_q, kAug_q, kAug2_q, kAug3_q, comp_n, comp_c, kCp1_q, kCp2_t, kCp2_f, kCp3_q, kCp4_q, eComp_q, kComp_q, kLs_q, cYes_q, wipe_n, wipe_c, eM1_q, kM11_q, kM12_q, eSplit_q, kSp1_q, kSp2_q, eJoin_q, kJn1_q, kJn2_q, kJn3_q, kJn4_q, eCat_q, kCt0_q, kCt1_q, kCt2_q, kCt3_pl, kCt3_ll, kCt3_lp, kCt3_pp, itemsT_p, itemsT_t, itemsT_ll, isLT_p, isLT_l, eDn_q, eDix_q, kDx1_q, kDx2_q, kDx3_q, kDx4_q, eDget_q, kDg1_q, kDg2_q, kDg3_q, kDg4_q, kDg5_q, eDin_q, kDi1_q, kDi2_q, kDi3_q, kDi4_t, kDi4_f, sPutD_q, kPd1_q, kPd2_q, kPd3_q, kPd4_q, kPd5_q, atD_q, kAtD_q, dicT_p, dicT_o, keyT_i, keyT_s, toD_d, kV_d, sForM_q, kForM_q, loopT_n, loopT_c, kLt1_q, kLt2_n, kLt2_r, eM0_q, kM0_q, iR3_q, runF_q, kRun_r, kRun_n, cutT_s, gStarts, gFind, startE, T.toDs, T.toD, cleanT, tyD, tyOk, List.length_cons, List.length_nil, List.length_map, List.map_cons, List.map_nil, List.replicate, List.cons_append, List.nil_append, List.getElem?_cons_zero, List.getElem?_cons_succ, List.set_cons_zero, List.set_cons_succ, Nat.reduceAdd, Nat.reduceSub, Nat.reduceLT, Nat.reduceLeDiff, Nat.zero_add, gAdd_i, gAdd_g, gSub_i, gAddI_i, gMul_l, gMul_r, gDiv_i, gMod_i, gPow_i, gMulA_g, cLt_i, cLe_i, cGt_i, cGe_i, eqQ_i, neQ_i, eqQ_g, neQ_g, eqQ_ints, neQ_ints, eqQ_b, neQ_b, inQ_g, notInQ_g, gLen_g, gStr_i, gStr_s, gSum_p, gSum_l, gLen_p, gLen_l, toD_l, toDs_p, allP_map, ixT_lst, ixT_pl, ixT_pt, ixT_sg, signsD_g, atI_0, atI_1, atI_2, atI_3, atI_4, atI_5, atI_6, ofS, ifLe, ifLt, rng_len, decide_true, decide_false, Bool.false_eq_true, Bool.not_true, Bool.not_false, Int.reduceLT, Int.reduceLE, Int.reduceEq, kit_ii, kit_ib, kit_ll, kit_bb, kit_bi, kit_ss, kit_tt, kit_tl, kit_lt, kit_ls, kit_li, kit_lb, kit_is, kit_si, kit_sb, kit_ti, kit_tb, kit_ts]
theorem among_loop (w0 : Option T) (l : List Nat) : ∀ (ds : List Nat) (k : Option T), ∃ k', loopD (gNm 2) B_all_among_1 (ds.map chr1) [w0, some (.p (.str (sg l))), k] =
    some (if ds.all (fun c => decide (c ∈ l)) = true then .nx else .rt (.p (.bl false)), [w0, some (.p (.str (sg l))), k'])
  | [], k => ⟨k, rfl⟩
  | d :: ds, k => by
    rw [List.map_cons, loop_c]
    by_cases c : d ∈ l
    · obtain ⟨k', ih⟩ := among_loop w0 l ds (some (.p (chr1 d)))
      refine ⟨k', ?_⟩
      have hb : B_all_among_1 [w0, some (.p (.str (sg l))), some (.p (chr1 d))] = some (.nx, [w0, some (.p (.str (sg l))), some (.p (chr1 d))]) := by
        unfold B_all_among_1
        simp (disch := omega) only [c, ↓reduceIte, and_self, bindS, mapS, eV_q, kV_p, kV_l, kV_t, eM_q, kM_s, eB_q, kB_s, eC_q, eW_q, kW_p, aN_q, aC_q, kAC_q, kCons_q, aMv_q, kMv_s, kMv2_q, kMv3_s, eL_q, kL_q, eT_q, kT_q, kP_q, kBl_q, kT2_q, eFz_q, kFz_q, eOp_q, kOp1_q, kOp2_q, eCmp_q, kCm1_q, kCm2_q, eNeg_q, kNeg_q, eChain_q, kCh1_q, kCh2_q, kCh3_q, cT_q, kcT_q, cNot_q, kNot_q, cAnd_q, kcAnd_t, kcAnd_f, cOr_q, kcOr_t, kcOr_f, eIf_q, keIf_t, keIf_f, eAnd_q, keAnd_t, keAnd_f, eOr_q, keOr_t, keOr_f, eNot_q, keNot_q, sIf_q, kcIf_t, kcIf_f, eB1_q, kB1_q, eI2_q, kI2_q, eIsi_q, kIsi_q, kLst_q, eList_q, kList_q, kTpl_q, eTuple_q, kTuple_q, eCall_q, kCall_q, kCall2_q, eCallB_q, kCallB_q, kCl_q, allP_n, allP_c, eIx_q, kIx1_q, kIx2_q, oN_q, oS_q, koS_q, eSl_q, kSl1_q, kSl2_q, kSl3_q, cutT_p, cutT_l, sNx_q, sBk_q, sCt_q, sRetN_q, sSeq_q, kSeq_n, kSeq_r, kSeq_b, kSeq_c, sRet_q, kRet_q, sSet_q, kSet_q, sDrop_q, kDrop_q, gNm_q, gEnd_q, gAnd_q, gTp_q, kTp_q, partsT_p, partsT_t, kNx_q, sAsg_q, kAsg_q, sFor_q, kFor_q, loop_n, loop_c, kLp1_q, kLp2_n, kLp2_c, kLp2_b, kLp2_r, iL_q, kiL_q, iTp_q, kiTp_q, iSg_q, kiSg_q, iR1_q, kR1_q, iR2_q, kR2_q, iEn_q, kEn_q, iZp_q, kZp_q, kZp_t, sForV_q, kForV_q, kForV1_q, kForV2_n, kForV2_r, atL_q, kAtL_q, sApp_q, kApp_q, kApp1_q, kApp2_q, sPut_q, kPut_q, kPut1_q, kPut2_q, kPut3_q, kPut4_q, kPutEnd_q, asI_q, sAugIx_q, kAx_q, kAx0_q, kAx1_q, kAx2_q, kAx3_q, kAx4_q, kAx5_q, kAx6_q, kAx7_q, kAx8_q, sAug_q, kAug_q, kAug2_q, kAug3_q, comp_n, comp_c, kCp1_q, kCp2_t, kCp2_f, kCp3_q, kCp4_q, eComp_q, kComp_q, kLs_q, cYes_q, wipe_n, wipe_c, eM1_q, kM11_q, kM12_q, eSplit_q, kSp1_q, kSp2_q, eJoin_q, kJn1_q, kJn2_q, kJn3_q, kJn4_q, eCat_q, kCt0_q, kCt1_q, kCt2_q, kCt3_pl, kCt3_ll, kCt3_lp, kCt3_pp, itemsT_p, itemsT_t, itemsT_ll, isLT_p, isLT_l, eDn_q, eDix_q, kDx1_q, kDx2_q, kDx3_q, kDx4_q, eDget_q, kDg1_q, kDg2_q, kDg3_q, kDg4_q, kDg5_q, eDin_q, kDi1_q, kDi2_q, kDi3_q, kDi4_t, kDi4_f, sPutD_q, kPd1_q, kPd2_q, kPd3_q, kPd4_q, kPd5_q, atD_q, kAtD_q, dicT_p, dicT_o, keyT_i, keyT_s, toD_d, kV_d, sForM_q, kForM_q, loopT_n, loopT_c, kLt1_q, kLt2_n, kLt2_r, eM0_q, kM0_q, iR3_q, runF_q, kRun_r, kRun_n, cutT_s, gStarts, gFind, startE, T.toDs, T.toD, cleanT, tyD, tyOk, List.length_cons, List.length_nil, List.length_map, List.map_cons, List.map_nil, List.replicate, List.cons_append, List.nil_append, List.getElem?_cons_zero, List.getElem?_cons_succ, List.set_cons_zero, List.set_cons_succ, Nat.reduceAdd, Nat.reduceSub, Nat.reduceLT, Nat.reduceLeDiff, Nat.zero_add, gAdd_i, gAdd_g, gSub_i, gAddI_i, gMul_l, gMul_r, gDiv_i, gMod_i, gPow_i, gMulA_g, cLt_i, cLe_i, cGt_i, cGe_i, eqQ_i, neQ_i, eqQ_g, neQ_g, eqQ_ints, neQ_ints, eqQ_b, neQ_b, inQ_g, notInQ_g, gLen_g, gStr_i, gStr_s, gSum_p, gSum_l, gLen_p, gLen_l, toD_l, toDs_p, allP_map, ixT_lst, ixT_pl, ixT_pt, ixT_sg, signsD_g, atI_0, atI_1, atI_2, atI_3, atI_4, atI_5, atI_6, ofS, sg_len, ifLe, ifLt, rng_len, decide_true, decide_false, Bool.false_eq_true, Bool.not_true, Bool.not_false, Int.reduceLT, Int.reduceLE, Int.reduceEq, kit_ii, kit_ib, kit_ll, kit_bb, kit_bi, kit_ss, kit_tt, kit_tl, kit_lt, kit_ls, kit_li, kit_lb, kit_is, kit_si, kit_sb, kit_ti, kit_tb, kit_ts]
      show (some _).bind _ = _
      rw [bindS, kLp1_q]
      show (B_all_among_1 [w0, some (.p (.str (sg l))), some (.p (chr1 d))]).bind _ = _
      rw [hb, bindS, kLp2_n, ih]
      simp [c]
    · refine ⟨some (.p (chr1 d)), ?_⟩
      have hb : B_all_among_1 [w0, some (.p (.str (sg l))), some (.p (chr1 d))] = some (.rt (.p (.bl false)), [w0, some (.p (.str (sg l))), some (.p (chr1 d))]) := by
        unfold B_all_among_1
        simp (disch := omega) only [c, ↓reduceIte, and_self, bindS, mapS, eV_q, kV_p, kV_l, kV_t, eM_q, kM_s, eB_q, kB_s, eC_q, eW_q, kW_p, aN_q, aC_q, kAC_q, kCons_q, aMv_q, kMv_s, kMv2_q, kMv3_s, eL_q, kL_q, eT_q, kT_q, kP_q, kBl_q, kT2_q, eFz_q, kFz_q, eOp_q, kOp1_q, kOp2_q, eCmp_q, kCm1_q, kCm2_q, eNeg_q, kNeg_q, eChain_q, kCh1_q, kCh2_q, kCh3_q, cT_q, kcT_q, cNot_q, kNot_q, cAnd_q, kcAnd_t, kcAnd_f, cOr_q, kcOr_t, kcOr_f, eIf_q, keIf_t, keIf_f, eAnd_q, keAnd_t, keAnd_f, eOr_q, keOr_t, keOr_f, eNot_q, keNot_q, sIf_q, kcIf_t, kcIf_f, eB1_q, kB1_q, eI2_q, kI2_q, eIsi_q, kIsi_q, kLst_q, eList_q, kList_q, kTpl_q, eTuple_q, kTuple_q, eCall_q, kCall_q, kCall2_q, eCallB_q, kCallB_q, kCl_q, allP_n, allP_c, eIx_q, kIx1_q, kIx2_q, oN_q, oS_q, koS_q, eSl_q, kSl1_q, kSl2_q, kSl3_q, cutT_p, cutT_l, sNx_q, sBk_q, sCt_q, sRetN_q, sSeq_q, kSeq_n, kSeq_r, kSeq_b, kSeq_c, sRet_q, kRet_q, sSet_q, kSet_q, sDrop_q, kDrop_q, gNm_q, gEnd_q, gAnd_q, gTp_q, kTp_q, partsT_p, partsT_t, kNx_q, sAsg_q, kAsg_q, sFor_q, kFor_q, loop_n, loop_c, kLp1_q, kLp2_n, kLp2_c, kLp2_b, kLp2_r, iL_q, kiL_q, iTp_q, kiTp_q, iSg_q, kiSg_q, iR1_q, kR1_q, iR2_q, kR2_q, iEn_q, kEn_q, iZp_q, kZp_q, kZp_t, sForV_q, kForV_q, kForV1_q, kForV2_n, kForV2_r, atL_q, kAtL_q, sApp_q, kApp_q, kApp1_q, kApp2_q, sPut_q, kPut_q, kPut1_q, kPut2_q, kPut3_q, kPut4_q, kPutEnd_q, asI_q, sAugIx_q, kAx_q, kAx0_q, kAx1_q, kAx2_q, kAx3_q, kAx4_q, kAx5_q, kAx6_q, kAx7_q, kAx8_q, sAug_q, kAug_q, kAug2_q, kAug3_q, comp_n, comp_c, kCp1_q, kCp2_t, kCp2_f, kCp3_q, kCp4_q, eComp_q, kComp_q, kLs_q, cYes_q, wipe_n, wipe_c, eM1_q, kM11_q, kM12_q, eSplit_q, kSp1_q, kSp2_q, eJoin_q, kJn1_q, kJn2_q, kJn3_q, kJn4_q, eCat_q, kCt0_q, kCt1_q, kCt2_q, kCt3_pl, kCt3_ll, kCt3_lp, kCt3_pp, itemsT_p, itemsT_t, itemsT_ll, isLT_p, isLT_l, eDn_q, eDix_q, kDx1_q, kDx2_q, kDx3_q, kDx4_q, eDget_q, kDg1_q, kDg2_q, kDg3_q, kDg4_q, kDg5_q, eDin_q, kDi1_q, kDi2_q, kDi3_q, kDi4_t, kDi4_f, sPutD_q, kPd1_q, kPd2_q, kPd3_q, kPd4_q, kPd5_q, atD_q, kAtD_q, dicT_p, dicT_o, keyT_i, keyT_s, toD_d, kV_d, sForM_q, kForM_q, loopT_n, loopT_c, kLt1_q, kLt2_n, kLt2_r, eM0_q, kM0_q, iR3_q, runF_q, kRun_r, kRun_n, cutT_s, gStarts, gFind, startE, T.toDs, T.toD, cleanT, tyD, tyOk, List.length_cons, List.length_nil, List.length_map, List.map_cons, List.map_nil, List.replicate, List.cons_append, List.nil_append, List.getElem?_cons_zero, List.getElem?_cons_succ, List.set_cons_zero, List.set_cons_succ, Nat.reduceAdd, Nat.reduceSub, Nat.reduceLT, Nat.reduceLeDiff, Nat.zero_add, gAdd_i, gAdd_g, gSub_i, gAddI_i, gMul_l, gMul_r, gDiv_i, gMod_i, gPow_i, gMulA_g, cLt_i, cLe_i, cGt_i, cGe_i, eqQ_i, neQ_i, eqQ_g, neQ_g, eqQ_ints, neQ_ints, eqQ_b, neQ_b, inQ_g, notInQ_g, gLen_g, gStr_i, gStr_s, gSum_p, gSum_l, gLen_p, gLen_l, toD_l, toDs_p, allP_map, ixT_lst, ixT_pl, ixT_pt, ixT_sg, signsD_g, atI_0, atI_1, atI_2, atI_3, atI_4, atI_5, atI_6, ofS, sg_len, ifLe, ifLt, rng_len, decide_true, decide_false, Bool.false_eq_true, Bool.not_true, Bool.not_false, Int.reduceLT, Int.reduceLE, Int.reduceEq, kit_ii, kit_ib, kit_ll, kit_bb, kit_bi, kit_ss, kit_tt, kit_tl, kit_lt, kit_ls, kit_li, kit_lb, kit_is, kit_si, kit_sb, kit_ti, kit_tb, kit_ts]
      show (some _).bind _ = _
      rw [bindS, kLp1_q]
      show (B_all_among_1 [w0, some (.p (.str (sg l))), some (.p (chr1 d))]).bind _ = _
      rw [hb, bindS, kLp2_r]
      simp [c]
theorem among_ok (w l : List Nat) : phi_all_among [.str (sg w), .str (sg l)] = some (.p (.bl (w.all fun c => decide (c ∈ l)))) := by
  obtain ⟨k', h⟩ := among_loop (some (.p (.str (sg w)))) l w none
  unfold phi_all_among F_all_among
  cases hc : w.all (fun c => decide (c ∈ l)) with
  | true => rw [hc] at h; simp (disch := omega) only [h, ↓reduceIte, and_self, bindS, mapS, eV_q, kV_p, kV_l, kV_t, eM_q, kM_s, eB_q, kB_s, eC_q, eW_q, kW_p, aN_q, aC_q, kAC_q, kCons_q, aMv_q, kMv_s, kMv2_q, kMv3_s, eL_q, kL_q, eT_q, kT_q, kP_q, kBl_q, kT2_q, eFz_q, kFz_q, eOp_q, kOp1_q, kOp2_q, eCmp_q, kCm1_q, kCm2_q, eNeg_q, kNeg_q, eChain_q, kCh1_q, kCh2_q, kCh3_q, cT_q, kcT_q, cNot_q, kNot_q, cAnd_q, kcAnd_t, kcAnd_f, cOr_q, kcOr_t, kcOr_f, eIf_q, keIf_t, keIf_f, eAnd_q, keAnd_t, keAnd_f, eOr_q, keOr_t, keOr_f, eNot_q, keNot_q, sIf_q, kcIf_t, kcIf_f, eB1_q, kB1_q, eI2_q, kI2_q, eIsi_q, kIsi_q, kLst_q, eList_q, kList_q, kTpl_q, eTuple_q, kTuple_q, eCall_q, kCall_q, kCall2_q, eCallB_q, kCallB_q, kCl_q, allP_n, allP_c, eIx_q, kIx1_q, kIx2_q, oN_q, oS_q, koS_q, eSl_q, kSl1_q, kSl2_q, kSl3_q, cutT_p, cutT_l, sNx_q, sBk_q, sCt_q, sRetN_q, sSeq_q, kSeq_n, kSeq_r, kSeq_b, kSeq_c, sRet_q, kRet_q, sSet_q, kSet_q, sDrop_q, kDrop_q, gNm_q, gEnd_q, gAnd_q, gTp_q, kTp_q, partsT_p, partsT_t, kNx_q, sAsg_q, kAsg_q, sFor_q, kFor_q, loop_n, loop_c, kLp1_q, kLp2_n, kLp2_c, kLp2_b, kLp2_r, iL_q, kiL_q, iTp_q, kiTp_q, iSg_q, kiSg_q, iR1_q, kR1_q, iR2_q, kR2_q, iEn_q, kEn_q, iZp_q, kZp_q, kZp_t, sForV_q, kForV_q, kForV1_q, kForV2_n, kForV2_r, atL_q, kAtL_q, sApp_q, kApp_q, kApp1_q, kApp2_q, sPut_q, kPut_q, kPut1_q, kPut2_q, kPut3_q, kPut4_q, kPutEnd_q, asI_q, sAugIx_q, kAx_q, kAx0_q, kAx1_q, kAx2_q, kAx3_q, kAx4_q, kAx5_q, kAx6_q, kAx7_q, kAx8_q, sAug_q, kAug_q, kAug2_q, kAug3_q, comp_n, comp_c, kCp1_q, kCp2_t, kCp2_f, kCp3_q, kCp4_q, eComp_q, kComp_q, kLs_q, cYes_q, wipe_n, wipe_c, eM1_q, kM11_q, kM12_q, eSplit_q, kSp1_q, kSp2_q, eJoin_q, kJn1_q, kJn2_q, kJn3_q, kJn4_q, eCat_q, kCt0_q, kCt1_q, kCt2_q, kCt3_pl, kCt3_ll, kCt3_lp, kCt3_pp, itemsT_p, itemsT_t, itemsT_ll, isLT_p, isLT_l, eDn_q, eDix_q, kDx1_q, kDx2_q, kDx3_q, kDx4_q, eDget_q, kDg1_q, kDg2_q, kDg3_q, kDg4_q, kDg5_q, eDin_q, kDi1_q, kDi2_q, kDi3_q, kDi4_t, kDi4_f, sPutD_q, kPd1_q, kPd2_q, kPd3_q, kPd4_q, kPd5_q, atD_q, kAtD_q, dicT_p, dicT_o, keyT_i, keyT_s, toD_d, kV_d, sForM_q, kForM_q, loopT_n, loopT_c, kLt1_q, kLt2_n, kLt2_r, eM0_q, kM0_q, iR3_q, runF_q, kRun_r, kRun_n, cutT_s, gStarts, gFind, startE, T.toDs, T.toD, cleanT, tyD, tyOk, List.length_cons, List.length_nil, List.length_map, List.map_cons, List.map_nil, List.replicate, List.cons_append, List.nil_append, List.getElem?_cons_zero, List.getElem?_cons_succ, List.set_cons_zero, List.set_cons_succ, Nat.reduceAdd, Nat.reduceSub, Nat.reduceLT, Nat.reduceLeDiff, Nat.zero_add, gAdd_i, gAdd_g, gSub_i, gAddI_i, gMul_l, gMul_r, gDiv_i, gMod_i, gPow_i, gMulA_g, cLt_i, cLe_i, cGt_i, cGe_i, eqQ_i, neQ_i, eqQ_g, neQ_g, eqQ_ints, neQ_ints, eqQ_b, neQ_b, inQ_g, notInQ_g, gLen_g, gStr_i, gStr_s, gSum_p, gSum_l, gLen_p, gLen_l, toD_l, toDs_p, allP_map, ixT_lst, ixT_pl, ixT_pt, ixT_sg, signsD_g, atI_0, atI_1, atI_2, atI_3, atI_4, atI_5, atI_6, ofS, sg_len, ifLe, ifLt, rng_len, decide_true, decide_false, Bool.false_eq_true, Bool.not_true, Bool.not_false, Int.reduceLT, Int.reduceLE, Int.reduceEq, kit_ii, kit_ib, kit_ll, kit_bb, kit_bi, kit_ss, kit_tt, kit_tl, kit_lt, kit_ls, kit_li, kit_lb, kit_is, kit_si, kit_sb, kit_ti, kit_tb, kit_ts]
  | false => rw [hc] at h; simp (disch := omega) only [h, ↓reduceIte, and_self, bindS, mapS, eV_q, kV_p, kV_l, kV_t, eM_q, kM_s, eB_q, kB_s, eC_q, eW_q, kW_p, aN_q, aC_q, kAC_q, kCons_q, aMv_q, kMv_s, kMv2_q, kMv3_s, eL_q, kL_q, eT_q, kT_q, kP_q, kBl_q, kT2_q, eFz_q, kFz_q, eOp_q, kOp1_q, kOp2_q, eCmp_q, kCm1_q, kCm2_q, eNeg_q, kNeg_q, eChain_q, kCh1_q, kCh2_q, kCh3_q, cT_q, kcT_q, cNot_q, kNot_q, cAnd_q, kcAnd_t, kcAnd_f, cOr_q, kcOr_t, kcOr_f, eIf_q, keIf_t, keIf_f, eAnd_q, keAnd_t, keAnd_f, eOr_q, keOr_t, keOr_f, eNot_q, keNot_q, sIf_q, kcIf_t, kcIf_f, eB1_q, kB1_q, eI2_q, kI2_q, eIsi_q, kIsi_q, kLst_q, eList_q, kList_q, kTpl_q, eTuple_q, kTuple_q, eCall_q, kCall_q, kCall2_q, eCallB_q, kCallB_q, kCl_q, allP_n, allP_c, eIx_q, kIx1_q, kIx2_q, oN_q, oS_q, koS_q, eSl_q, kSl1_q, kSl2_q, kSl3_q, cutT_p, cutT_l, sNx_q, sBk_q, sCt_q, sRetN_q, sSeq_q, kSeq_n, kSeq_r, kSeq_b, kSeq_c, sRet_q, kRet_q, sSet_q, kSet_q, sDrop_q, kDrop_q, gNm_q, gEnd_q, gAnd_q, gTp_q, kTp_q, partsT_p, partsT_t, kNx_q, sAsg_q, kAsg_q, sFor_q, kFor_q, loop_n, loop_c, kLp1_q, kLp2_n, kLp2_c, kLp2_b, kLp2_r, iL_q, kiL_q, iTp_q, kiTp_q, iSg_q, kiSg_q, iR1_q, kR1_q, iR2_q, kR2_q, iEn_q, kEn_q, iZp_q, kZp_q, kZp_t, sForV_q, kForV_q, kForV1_q, kForV2_n, kForV2_r, atL_q, kAtL_q, sApp_q, kApp_q, kApp1_q, kApp2_q, sPut_q, kPut_q, kPut1_q, kPut2_q, kPut3_q, kPut4_q, kPutEnd_q, asI_q, sAugIx_q, kAx_q, kAx0_q, kAx1_q, kAx2_q, kAx3_q, kAx4_q, kAx5_q, kAx6_q, kAx7_q, kAx8_q, sAug_q, kAug_q, kAug2_q, kAug3_q, comp_n, comp_c, kCp1_q, kCp2_t, kCp2_f, kCp3_q, kCp4_q, eComp_q, kComp_q, kLs_q, cYes_q, wipe_n, wipe_c, eM1_q, kM11_q, kM12_q, eSplit_q, kSp1_q, kSp2_q, eJoin_q, kJn1_q, kJn2_q, kJn3_q, kJn4_q, eCat_q, kCt0_q, kCt1_q, kCt2_q, kCt3_pl, kCt3_ll, kCt3_lp, kCt3_pp, itemsT_p, itemsT_t, itemsT_ll, isLT_p, isLT_l, eDn_q, eDix_q, kDx1_q, kDx2_q, kDx3_q, kDx4_q, eDget_q, kDg1_q, kDg2_q, kDg3_q, kDg4_q, kDg5_q, eDin_q, kDi1_q, kDi2_q, kDi3_q, kDi4_t, kDi4_f, sPutD_q, kPd1_q, kPd2_q, kPd3_q, kPd4_q, kPd5_q, atD_q, kAtD_q, dicT_p, dicT_o, keyT_i, keyT_s, toD_d, kV_d, sForM_q, kForM_q, loopT_n, loopT_c, kLt1_q, kLt2_n, kLt2_r, eM0_q, kM0_q, iR3_q, runF_q, kRun_r, kRun_n, cutT_s, gStarts, gFind, startE, T.toDs, T.toD, cleanT, tyD, tyOk, List.length_cons, List.length_nil, List.length_map, List.map_cons, List.map_nil, List.replicate, List.cons_append, List.nil_append, List.getElem?_cons_zero, List.getElem?_cons_succ, List.set_cons_zero, List.set_cons_succ, Nat.reduceAdd, Nat.reduceSub, Nat.reduceLT, Nat.reduceLeDiff, Nat.zero_add, gAdd_i, gAdd_g, gSub_i, gAddI_i, gMul_l, gMul_r, gDiv_i, gMod_i, gPow_i, gMulA_g, cLt_i, cLe_i, cGt_i, cGe_i, eqQ_i, neQ_i, eqQ_g, neQ_g, eqQ_ints, neQ_ints, eqQ_b, neQ_b, inQ_g, notInQ_g, gLen_g, gStr_i, gStr_s, gSum_p, gSum_l, gLen_p, gLen_l, toD_l, toDs_p, allP_map, ixT_lst, ixT_pl, ixT_pt, ixT_sg, signsD_g, atI_0, atI_1, atI_2, atI_3, atI_4, atI_5, atI_6, ofS, sg_len, ifLe, ifLt, rng_len, decide_true, decide_false, Bool.false_eq_true, Bool.not_true, Bool.not_false, Int.reduceLT, Int.reduceLE, Int.reduceEq, kit_ii, kit_ib, kit_ll, kit_bb, kit_bi, kit_ss, kit_tt, kit_tl, kit_lt, kit_ls, kit_li, kit_lb, kit_is, kit_si, kit_sb, kit_ti, kit_tb, kit_ts]
/-- what a name is -/
def isName (w : List Nat) : Bool := !decide (sg w ∈ ks) && (decide (1 ≤ w.length) && decide (w.length ≤ 8) && w.all fun c => decide (c ∈ cod "abcdefghijklmnopqrstuvwxyz"))
theorem isname_ok {w : List Nat} (hw : w.length ≤ 1000) : phi_is_name [.str (sg w)] = some (.p (.bl (isName w))) := by
  have h1 := iskw_ok w
  have h2 := among_ok w (cod "abcdefghijklmnopqrstuvwxyz")
  unfold phi_is_name F_is_name isName
  by_cases k : sg w ∈ ks
  · simp (disch := omega) only [h1, h2, k, ↓reduceIte, and_self, bindS, mapS, eV_q, kV_p, kV_l, kV_t, eM_q, kM_s, eB_q, kB_s, eC_q, eW_q, kW_p, aN_q, aC_q, kAC_q, kCons_q, aMv_q, kMv_s, kMv2_q, kMv3_s, eL_q, kL_q, eT_q, kT_q, kP_q, kBl_q, kT2_q, eFz_q, kFz_q, eOp_q, kOp1_q, kOp2_q, eCmp_q, kCm1_q, kCm2_q, eNeg_q, kNeg_q, eChain_q, kCh1_q, kCh2_q, kCh3_q, cT_q, kcT_q, cNot_q, kNot_q, cAnd_q, kcAnd_t, kcAnd_f, cOr_q, kcOr_t, kcOr_f, eIf_q, keIf_t, keIf_f, eAnd_q, keAnd_t, keAnd_f, eOr_q, keOr_t, keOr_f, eNot_q, keNot_q, sIf_q, kcIf_t, kcIf_f, eB1_q, kB1_q, eI2_q, kI2_q, eIsi_q, kIsi_q, kLst_q, eList_q, kList_q, kTpl_q, eTuple_q, kTuple_q, eCall_q, kCall_q, kCall2_q, eCallB_q, kCallB_q, kCl_q, allP_n, allP_c, eIx_q, kIx1_q, kIx2_q, oN_q, oS_q, koS_q, eSl_q, kSl1_q, kSl2_q, kSl3_q, cutT_p, cutT_l, sNx_q, sBk_q, sCt_q, sRetN_q, sSeq_q, kSeq_n, kSeq_r, kSeq_b, kSeq_c, sRet_q, kRet_q, sSet_q, kSet_q, sDrop_q, kDrop_q, gNm_q, gEnd_q, gAnd_q, gTp_q, kTp_q, partsT_p, partsT_t, kNx_q, sAsg_q, kAsg_q, sFor_q, kFor_q, loop_n, loop_c, kLp1_q, kLp2_n, kLp2_c, kLp2_b, kLp2_r, iL_q, kiL_q, iTp_q, kiTp_q, iSg_q, kiSg_q, iR1_q, kR1_q, iR2_q, kR2_q, iEn_q, kEn_q, iZp_q, kZp_q, kZp_t, sForV_q, kForV_q, kForV1_q, kForV2_n, kForV2_r, atL_q, kAtL_q, sApp_q, kApp_q, kApp1_q, kApp2_q, sPut_q, kPut_q, kPut1_q, kPut2_q, kPut3_q, kPut4_q, kPutEnd_q, asI_q, sAugIx_q, kAx_q, kAx0_q, kAx1_q, kAx2_q, kAx3_q, kAx4_q, kAx5_q, kAx6_q, kAx7_q, kAx8_q, sAug_q, kAug_q, kAug2_q, kAug3_q, comp_n, comp_c, kCp1_q, kCp2_t, kCp2_f, kCp3_q, kCp4_q, eComp_q, kComp_q, kLs_q, cYes_q, wipe_n, wipe_c, eM1_q, kM11_q, kM12_q, eSplit_q, kSp1_q, kSp2_q, eJoin_q, kJn1_q, kJn2_q, kJn3_q, kJn4_q, eCat_q, kCt0_q, kCt1_q, kCt2_q, kCt3_pl, kCt3_ll, kCt3_lp, kCt3_pp, itemsT_p, itemsT_t, itemsT_ll, isLT_p, isLT_l, eDn_q, eDix_q, kDx1_q, kDx2_q, kDx3_q, kDx4_q, eDget_q, kDg1_q, kDg2_q, kDg3_q, kDg4_q, kDg5_q, eDin_q, kDi1_q, kDi2_q, kDi3_q, kDi4_t, kDi4_f, sPutD_q, kPd1_q, kPd2_q, kPd3_q, kPd4_q, kPd5_q, atD_q, kAtD_q, dicT_p, dicT_o, keyT_i, keyT_s, toD_d, kV_d, sForM_q, kForM_q, loopT_n, loopT_c, kLt1_q, kLt2_n, kLt2_r, eM0_q, kM0_q, iR3_q, runF_q, kRun_r, kRun_n, cutT_s, gStarts, gFind, startE, T.toDs, T.toD, cleanT, tyD, tyOk, List.length_cons, List.length_nil, List.length_map, List.map_cons, List.map_nil, List.replicate, List.cons_append, List.nil_append, List.getElem?_cons_zero, List.getElem?_cons_succ, List.set_cons_zero, List.set_cons_succ, Nat.reduceAdd, Nat.reduceSub, Nat.reduceLT, Nat.reduceLeDiff, Nat.zero_add, gAdd_i, gAdd_g, gSub_i, gAddI_i, gMul_l, gMul_r, gDiv_i, gMod_i, gPow_i, gMulA_g, cLt_i, cLe_i, cGt_i, cGe_i, eqQ_i, neQ_i, eqQ_g, neQ_g, eqQ_ints, neQ_ints, eqQ_b, neQ_b, inQ_g, notInQ_g, gLen_g, gStr_i, gStr_s, gSum_p, gSum_l, gLen_p, gLen_l, toD_l, toDs_p, allP_map, ixT_lst, ixT_pl, ixT_pt, ixT_sg, signsD_g, atI_0, atI_1, atI_2, atI_3, atI_4, atI_5, atI_6, ofS, sg_len, ifLe, ifLt, rng_len, decide_true, decide_false, Bool.false_eq_true, Bool.not_true, Bool.not_false, Int.reduceLT, Int.reduceLE, Int.reduceEq, kit_ii, kit_ib, kit_ll, kit_bb, kit_bi, kit_ss, kit_tt, kit_tl, kit_lt, kit_ls, kit_li, kit_lb, kit_is, kit_si, kit_sb, kit_ti, kit_tb, kit_ts]; rfl
  · by_cases l1 : 1 ≤ w.length
    · by_cases l2 : w.length ≤ 8
      · simp (disch := omega) only [h1, h2, k, l1, l2, bLe_t, ↓reduceIte, and_self, bindS, mapS, eV_q, kV_p, kV_l, kV_t, eM_q, kM_s, eB_q, kB_s, eC_q, eW_q, kW_p, aN_q, aC_q, kAC_q, kCons_q, aMv_q, kMv_s, kMv2_q, kMv3_s, eL_q, kL_q, eT_q, kT_q, kP_q, kBl_q, kT2_q, eFz_q, kFz_q, eOp_q, kOp1_q, kOp2_q, eCmp_q, kCm1_q, kCm2_q, eNeg_q, kNeg_q, eChain_q, kCh1_q, kCh2_q, kCh3_q, cT_q, kcT_q, cNot_q, kNot_q, cAnd_q, kcAnd_t, kcAnd_f, cOr_q, kcOr_t, kcOr_f, eIf_q, keIf_t, keIf_f, eAnd_q, keAnd_t, keAnd_f, eOr_q, keOr_t, keOr_f, eNot_q, keNot_q, sIf_q, kcIf_t, kcIf_f, eB1_q, kB1_q, eI2_q, kI2_q, eIsi_q, kIsi_q, kLst_q, eList_q, kList_q, kTpl_q, eTuple_q, kTuple_q, eCall_q, kCall_q, kCall2_q, eCallB_q, kCallB_q, kCl_q, allP_n, allP_c, eIx_q, kIx1_q, kIx2_q, oN_q, oS_q, koS_q, eSl_q, kSl1_q, kSl2_q, kSl3_q, cutT_p, cutT_l, sNx_q, sBk_q, sCt_q, sRetN_q, sSeq_q, kSeq_n, kSeq_r, kSeq_b, kSeq_c, sRet_q, kRet_q, sSet_q, kSet_q, sDrop_q, kDrop_q, gNm_q, gEnd_q, gAnd_q, gTp_q, kTp_q, partsT_p, partsT_t, kNx_q, sAsg_q, kAsg_q, sFor_q, kFor_q, loop_n, loop_c, kLp1_q, kLp2_n, kLp2_c, kLp2_b, kLp2_r, iL_q, kiL_q, iTp_q, kiTp_q, iSg_q, kiSg_q, iR1_q, kR1_q, iR2_q, kR2_q, iEn_q, kEn_q, iZp_q, kZp_q, kZp_t, sForV_q, kForV_q, kForV1_q, kForV2_n, kForV2_r, atL_q, kAtL_q, sApp_q, kApp_q, kApp1_q, kApp2_q, sPut_q, kPut_q, kPut1_q, kPut2_q, kPut3_q, kPut4_q, kPutEnd_q, asI_q, sAugIx_q, kAx_q, kAx0_q, kAx1_q, kAx2_q, kAx3_q, kAx4_q, kAx5_q, kAx6_q, kAx7_q, kAx8_q, sAug_q, kAug_q, kAug2_q, kAug3_q, comp_n, comp_c, kCp1_q, kCp2_t, kCp2_f, kCp3_q, kCp4_q, eComp_q, kComp_q, kLs_q, cYes_q, wipe_n, wipe_c, eM1_q, kM11_q, kM12_q, eSplit_q, kSp1_q, kSp2_q, eJoin_q, kJn1_q, kJn2_q, kJn3_q, kJn4_q, eCat_q, kCt0_q, kCt1_q, kCt2_q, kCt3_pl, kCt3_ll, kCt3_lp, kCt3_pp, itemsT_p, itemsT_t, itemsT_ll, isLT_p, isLT_l, eDn_q, eDix_q, kDx1_q, kDx2_q, kDx3_q, kDx4_q, eDget_q, kDg1_q, kDg2_q, kDg3_q, kDg4_q, kDg5_q, eDin_q, kDi1_q, kDi2_q, kDi3_q, kDi4_t, kDi4_f, sPutD_q, kPd1_q, kPd2_q, kPd3_q, kPd4_q, kPd5_q, atD_q, kAtD_q, dicT_p, dicT_o, keyT_i, keyT_s, toD_d, kV_d, sForM_q, kForM_q, loopT_n, loopT_c, kLt1_q, kLt2_n, kLt2_r, eM0_q, kM0_q, iR3_q, runF_q, kRun_r, kRun_n, cutT_s, gStarts, gFind, startE, T.toDs, T.toD, cleanT, tyD, tyOk, List.length_cons, List.length_nil, List.length_map, List.map_cons, List.map_nil, List.replicate, List.cons_append, List.nil_append, List.getElem?_cons_zero, List.getElem?_cons_succ, List.set_cons_zero, List.set_cons_succ, Nat.reduceAdd, Nat.reduceSub, Nat.reduceLT, Nat.reduceLeDiff, Nat.zero_add, gAdd_i, gAdd_g, gSub_i, gAddI_i, gMul_l, gMul_r, gDiv_i, gMod_i, gPow_i, gMulA_g, cLt_i, cLe_i, cGt_i, cGe_i, eqQ_i, neQ_i, eqQ_g, neQ_g, eqQ_ints, neQ_ints, eqQ_b, neQ_b, inQ_g, notInQ_g, gLen_g, gStr_i, gStr_s, gSum_p, gSum_l, gLen_p, gLen_l, toD_l, toDs_p, allP_map, ixT_lst, ixT_pl, ixT_pt, ixT_sg, signsD_g, atI_0, atI_1, atI_2, atI_3, atI_4, atI_5, atI_6, ofS, sg_len, ifLe, ifLt, rng_len, decide_true, decide_false, Bool.false_eq_true, Bool.not_true, Bool.not_false, Int.reduceLT, Int.reduceLE, Int.reduceEq, kit_ii, kit_ib, kit_ll, kit_bb, kit_bi, kit_ss, kit_tt, kit_tl, kit_lt, kit_ls, kit_li, kit_lb, kit_is, kit_si, kit_sb, kit_ti, kit_tb, kit_ts]; rfl
      · simp (disch := omega) only [h1, h2, k, l1, l2, bLe_t, bLe_f, ↓reduceIte, and_self, bindS, mapS, eV_q, kV_p, kV_l, kV_t, eM_q, kM_s, eB_q, kB_s, eC_q, eW_q, kW_p, aN_q, aC_q, kAC_q, kCons_q, aMv_q, kMv_s, kMv2_q, kMv3_s, eL_q, kL_q, eT_q, kT_q, kP_q, kBl_q, kT2_q, eFz_q, kFz_q, eOp_q, kOp1_q, kOp2_q, eCmp_q, kCm1_q, kCm2_q, eNeg_q, kNeg_q, eChain_q, kCh1_q, kCh2_q, kCh3_q, cT_q, kcT_q, cNot_q, kNot_q, cAnd_q, kcAnd_t, kcAnd_f, cOr_q, kcOr_t, kcOr_f, eIf_q, keIf_t, keIf_f, eAnd_q, keAnd_t, keAnd_f, eOr_q, keOr_t, keOr_f, eNot_q, keNot_q, sIf_q, kcIf_t, kcIf_f, eB1_q, kB1_q, eI2_q, kI2_q, eIsi_q, kIsi_q, kLst_q, eList_q, kList_q, kTpl_q, eTuple_q, kTuple_q, eCall_q, kCall_q, kCall2_q, eCallB_q, kCallB_q, kCl_q, allP_n, allP_c, eIx_q, kIx1_q, kIx2_q, oN_q, oS_q, koS_q, eSl_q, kSl1_q, kSl2_q, kSl3_q, cutT_p, cutT_l, sNx_q, sBk_q, sCt_q, sRetN_q, sSeq_q, kSeq_n, kSeq_r, kSeq_b, kSeq_c, sRet_q, kRet_q, sSet_q, kSet_q, sDrop_q, kDrop_q, gNm_q, gEnd_q, gAnd_q, gTp_q, kTp_q, partsT_p, partsT_t, kNx_q, sAsg_q, kAsg_q, sFor_q, kFor_q, loop_n, loop_c, kLp1_q, kLp2_n, kLp2_c, kLp2_b, kLp2_r, iL_q, kiL_q, iTp_q, kiTp_q, iSg_q, kiSg_q, iR1_q, kR1_q, iR2_q, kR2_q, iEn_q, kEn_q, iZp_q, kZp_q, kZp_t, sForV_q, kForV_q, kForV1_q, kForV2_n, kForV2_r, atL_q, kAtL_q, sApp_q, kApp_q, kApp1_q, kApp2_q, sPut_q, kPut_q, kPut1_q, kPut2_q, kPut3_q, kPut4_q, kPutEnd_q, asI_q, sAugIx_q, kAx_q, kAx0_q, kAx1_q, kAx2_q, kAx3_q, kAx4_q, kAx5_q, kAx6_q, kAx7_q, kAx8_q, sAug_q, kAug_q, kAug2_q, kAug3_q, comp_n, comp_c, kCp1_q, kCp2_t, kCp2_f, kCp3_q, kCp4_q, eComp_q, kComp_q, kLs_q, cYes_q, wipe_n, wipe_c, eM1_q, kM11_q, kM12_q, eSplit_q, kSp1_q, kSp2_q, eJoin_q, kJn1_q, kJn2_q, kJn3_q, kJn4_q, eCat_q, kCt0_q, kCt1_q, kCt2_q, kCt3_pl, kCt3_ll, kCt3_lp, kCt3_pp, itemsT_p, itemsT_t, itemsT_ll, isLT_p, isLT_l, eDn_q, eDix_q, kDx1_q, kDx2_q, kDx3_q, kDx4_q, eDget_q, kDg1_q, kDg2_q, kDg3_q, kDg4_q, kDg5_q, eDin_q, kDi1_q, kDi2_q, kDi3_q, kDi4_t, kDi4_f, sPutD_q, kPd1_q, kPd2_q, kPd3_q, kPd4_q, kPd5_q, atD_q, kAtD_q, dicT_p, dicT_o, keyT_i, keyT_s, toD_d, kV_d, sForM_q, kForM_q, loopT_n, loopT_c, kLt1_q, kLt2_n, kLt2_r, eM0_q, kM0_q, iR3_q, runF_q, kRun_r, kRun_n, cutT_s, gStarts, gFind, startE, T.toDs, T.toD, cleanT, tyD, tyOk, List.length_cons, List.length_nil, List.length_map, List.map_cons, List.map_nil, List.replicate, List.cons_append, List.nil_append, List.getElem?_cons_zero, List.getElem?_cons_succ, List.set_cons_zero, List.set_cons_succ, Nat.reduceAdd, Nat.reduceSub, Nat.reduceLT, Nat.reduceLeDiff, Nat.zero_add, gAdd_i, gAdd_g, gSub_i, gAddI_i, gMul_l, gMul_r, gDiv_i, gMod_i, gPow_i, gMulA_g, cLt_i, cLe_i, cGt_i, cGe_i, eqQ_i, neQ_i, eqQ_g, neQ_g, eqQ_ints, neQ_ints, eqQ_b, neQ_b, inQ_g, notInQ_g, gLen_g, gStr_i, gStr_s, gSum_p, gSum_l, gLen_p, gLen_l, toD_l, toDs_p, allP_map, ixT_lst, ixT_pl, ixT_pt, ixT_sg, signsD_g, atI_0, atI_1, atI_2, atI_3, atI_4, atI_5, atI_6, ofS, sg_len, ifLe, ifLt, rng_len, decide_true, decide_false, Bool.false_eq_true, Bool.not_true, Bool.not_false, Int.reduceLT, Int.reduceLE, Int.reduceEq, kit_ii, kit_ib, kit_ll, kit_bb, kit_bi, kit_ss, kit_tt, kit_tl, kit_lt, kit_ls, kit_li, kit_lb, kit_is, kit_si, kit_sb, kit_ti, kit_tb, kit_ts]; rfl
    · simp (disch := omega) only [h1, h2, k, l1, bLe_f, ↓reduceIte, and_self, bindS, mapS, eV_q, kV_p, kV_l, kV_t, eM_q, kM_s, eB_q, kB_s, eC_q, eW_q, kW_p, aN_q, aC_q, kAC_q, kCons_q, aMv_q, kMv_s, kMv2_q, kMv3_s, eL_q, kL_q, eT_q, kT_q, kP_q, kBl_q, kT2_q, eFz_q, kFz_q, eOp_q, kOp1_q, kOp2_q, eCmp_q, kCm1_q, kCm2_q, eNeg_q, kNeg_q, eChain_q, kCh1_q, kCh2_q, kCh3_q, cT_q, kcT_q, cNot_q, kNot_q, cAnd_q, kcAnd_t, kcAnd_f, cOr_q, kcOr_t, kcOr_f, eIf_q, keIf_t, keIf_f, eAnd_q, keAnd_t, keAnd_f, eOr_q, keOr_t, keOr_f, eNot_q, keNot_q, sIf_q, kcIf_t, kcIf_f, eB1_q, kB1_q, eI2_q, kI2_q, eIsi_q, kIsi_q, kLst_q, eList_q, kList_q, kTpl_q, eTuple_q, kTuple_q, eCall_q, kCall_q, kCall2_q, eCallB_q, kCallB_q, kCl_q, allP_n, allP_c, eIx_q, kIx1_q, kIx2_q, oN_q, oS_q, koS_q, eSl_q, kSl1_q, kSl2_q, kSl3_q, cutT_p, cutT_l, sNx_q, sBk_q, sCt_q, sRetN_q, sSeq_q, kSeq_n, kSeq_r, kSeq_b, kSeq_c, sRet_q, kRet_q, sSet_q, kSet_q, sDrop_q, kDrop_q, gNm_q, gEnd_q, gAnd_q, gTp_q, kTp_q, partsT_p, partsT_t, kNx_q, sAsg_q, kAsg_q, sFor_q, kFor_q, loop_n, loop_c, kLp1_q, kLp2_n, kLp2_c, kLp2_b, kLp2_r, iL_q, kiL_q, iTp_q, kiTp_q, iSg_q, kiSg_q, iR1_q, kR1_q, iR2_q, kR2_q, iEn_q, kEn_q, iZp_q, kZp_q, kZp_t, sForV_q, kForV_q, kForV1_q, kForV2_n, kForV2_r, atL_q, kAtL_q, sApp_q, kApp_q, kApp1_q, kApp2_q, sPut_q, kPut_q, kPut1_q, kPut2_q, kPut3_q, kPut4_q, kPutEnd_q, asI_q, sAugIx_q, kAx_q, kAx0_q, kAx1_q, kAx2_q, kAx3_q, kAx4_q, kAx5_q, kAx6_q, kAx7_q, kAx8_q, sAug_q, kAug_q, kAug2_q, kAug3_q, comp_n, comp_c, kCp1_q, kCp2_t, kCp2_f, kCp3_q, kCp4_q, eComp_q, kComp_q, kLs_q, cYes_q, wipe_n, wipe_c, eM1_q, kM11_q, kM12_q, eSplit_q, kSp1_q, kSp2_q, eJoin_q, kJn1_q, kJn2_q, kJn3_q, kJn4_q, eCat_q, kCt0_q, kCt1_q, kCt2_q, kCt3_pl, kCt3_ll, kCt3_lp, kCt3_pp, itemsT_p, itemsT_t, itemsT_ll, isLT_p, isLT_l, eDn_q, eDix_q, kDx1_q, kDx2_q, kDx3_q, kDx4_q, eDget_q, kDg1_q, kDg2_q, kDg3_q, kDg4_q, kDg5_q, eDin_q, kDi1_q, kDi2_q, kDi3_q, kDi4_t, kDi4_f, sPutD_q, kPd1_q, kPd2_q, kPd3_q, kPd4_q, kPd5_q, atD_q, kAtD_q, dicT_p, dicT_o, keyT_i, keyT_s, toD_d, kV_d, sForM_q, kForM_q, loopT_n, loopT_c, kLt1_q, kLt2_n, kLt2_r, eM0_q, kM0_q, iR3_q, runF_q, kRun_r, kRun_n, cutT_s, gStarts, gFind, startE, T.toDs, T.toD, cleanT, tyD, tyOk, List.length_cons, List.length_nil, List.length_map, List.map_cons, List.map_nil, List.replicate, List.cons_append, List.nil_append, List.getElem?_cons_zero, List.getElem?_cons_succ, List.set_cons_zero, List.set_cons_succ, Nat.reduceAdd, Nat.reduceSub, Nat.reduceLT, Nat.reduceLeDiff, Nat.zero_add, gAdd_i, gAdd_g, gSub_i, gAddI_i, gMul_l, gMul_r, gDiv_i, gMod_i, gPow_i, gMulA_g, cLt_i, cLe_i, cGt_i, cGe_i, eqQ_i, neQ_i, eqQ_g, neQ_g, eqQ_ints, neQ_ints, eqQ_b, neQ_b, inQ_g, notInQ_g, gLen_g, gStr_i, gStr_s, gSum_p, gSum_l, gLen_p, gLen_l, toD_l, toDs_p, allP_map, ixT_lst, ixT_pl, ixT_pt, ixT_sg, signsD_g, atI_0, atI_1, atI_2, atI_3, atI_4, atI_5, atI_6, ofS, sg_len, ifLe, ifLt, rng_len, decide_true, decide_false, Bool.false_eq_true, Bool.not_true, Bool.not_false, Int.reduceLT, Int.reduceLE, Int.reduceEq, kit_ii, kit_ib, kit_ll, kit_bb, kit_bi, kit_ss, kit_tt, kit_tl, kit_lt, kit_ls, kit_li, kit_lb, kit_is, kit_si, kit_sb, kit_ti, kit_tb, kit_ts]; rfl
theorem starts1 (c d : Nat) (r : List Nat) : Txt.startswith (sg (c :: r)) (sg [d]) = decide (c = d) := by
  unfold Txt.startswith Builtin.Str.subAt
  simp
  rw [sg_len, sg_len]
  simp
  rw [Bool.eq_iff_iff]; simp
theorem cod10 (c : Nat) : c ∈ cod "0123456789" ↔ 48 ≤ c ∧ c ≤ 57 := by
  have e : cod "0123456789" = [48,49,50,51,52,53,54,55,56,57] := by decide +kernel
  rw [e]; simp; omega
def dgt (w : List Nat) : Bool := w.all fun c => decide (c ∈ cod "0123456789")
/-- what a number is -/
def isNum (w : List Nat) : Bool := decide (1 ≤ w.length) && decide (w.length ≤ 13) && dgt w && !(decide (w.head? = some 48) && !decide (w = [48]))
def val (w : List Nat) : Nat := PySem.NumText.digitsVal w
theorem int_ok {w : List Nat} (h : dgt w = true) (h1 : 1 ≤ w.length) (h2 : w.length ≤ 13) : gInt (.p (.str (sg w))) = some (.int ((val w : Nat) : Int)) := by
  have hd : PySem.NumText.AllDigits w := fun c hc => by
    have := List.all_eq_true.mp h c hc
    exact (cod10 c).mp (of_decide_eq_true this)
  have e := PySem.intText_digits (x := sg w) hd (by intro z; rw [show (sg w).cps.toList = w from rfl] at z; rw [z] at h1; simp at h1) (by rw [sg_len]; omega)
  show (if (sg w).length ≤ 640 then (PySem.intText? (sg w)).map D.int else none) = _
  rw [if_pos (by rw [sg_len]; omega), e]
  rfl
theorem numberin_ok {w : List Nat} (hw : w.length ≤ 1000) : phi_number_in [.str (sg w)] = some (.p (if isNum w = true then .int ((val w : Nat) : Int) else .non)) := by
  have h2 := among_ok w (cod "0123456789")
  have e0 : cod "0" = [48] := by decide
  rw [show (w.all fun c => decide (c ∈ cod "0123456789")) = dgt w from rfl] at h2
  unfold phi_number_in F_number_in isNum
  cases w with
  | nil => simp (disch := omega) only [h2, bLe_f, ↓reduceIte, and_self, bindS, mapS, eV_q, kV_p, kV_l, kV_t, eM_q, kM_s, eB_q, kB_s, eC_q, eW_q, kW_p, aN_q, aC_q, kAC_q, kCons_q, aMv_q, kMv_s, kMv2_q, kMv3_s, eL_q, kL_q, eT_q, kT_q, kP_q, kBl_q, kT2_q, eFz_q, kFz_q, eOp_q, kOp1_q, kOp2_q, eCmp_q, kCm1_q, kCm2_q, eNeg_q, kNeg_q, eChain_q, kCh1_q, kCh2_q, kCh3_q, cT_q, kcT_q, cNot_q, kNot_q, cAnd_q, kcAnd_t, kcAnd_f, cOr_q, kcOr_t, kcOr_f, eIf_q, keIf_t, keIf_f, eAnd_q, keAnd_t, keAnd_f, eOr_q, keOr_t, keOr_f, eNot_q, keNot_q, sIf_q, kcIf_t, kcIf_f, eB1_q, kB1_q, eI2_q, kI2_q, eIsi_q, kIsi_q, kLst_q, eList_q, kList_q, kTpl_q, eTuple_q, kTuple_q, eCall_q, kCall_q, kCall2_q, eCallB_q, kCallB_q, kCl_q, allP_n, allP_c, eIx_q, kIx1_q, kIx2_q, oN_q, oS_q, koS_q, eSl_q, kSl1_q, kSl2_q, kSl3_q, cutT_p, cutT_l, sNx_q, sBk_q, sCt_q, sRetN_q, sSeq_q, kSeq_n, kSeq_r, kSeq_b, kSeq_c, sRet_q, kRet_q, sSet_q, kSet_q, sDrop_q, kDrop_q, gNm_q, gEnd_q, gAnd_q, gTp_q, kTp_q, partsT_p, partsT_t, kNx_q, sAsg_q, kAsg_q, sFor_q, kFor_q, loop_n, loop_c, kLp1_q, kLp2_n, kLp2_c, kLp2_b, kLp2_r, iL_q, kiL_q, iTp_q, kiTp_q, iSg_q, kiSg_q, iR1_q, kR1_q, iR2_q, kR2_q, iEn_q, kEn_q, iZp_q, kZp_q, kZp_t, sForV_q, kForV_q, kForV1_q, kForV2_n, kForV2_r, atL_q, kAtL_q, sApp_q, kApp_q, kApp1_q, kApp2_q, sPut_q, kPut_q, kPut1_q, kPut2_q, kPut3_q, kPut4_q, kPutEnd_q, asI_q, sAugIx_q, kAx_q, kAx0_q, kAx1_q, kAx2_q, kAx3_q, kAx4_q, kAx5_q, kAx6_q, kAx7_q, kAx8_q, sAug_q, kAug_q, kAug2_q, kAug3_q, comp_n, comp_c, kCp1_q, kCp2_t, kCp2_f, kCp3_q, kCp4_q, eComp_q, kComp_q, kLs_q, cYes_q, wipe_n, wipe_c, eM1_q, kM11_q, kM12_q, eSplit_q, kSp1_q, kSp2_q, eJoin_q, kJn1_q, kJn2_q, kJn3_q, kJn4_q, eCat_q, kCt0_q, kCt1_q, kCt2_q, kCt3_pl, kCt3_ll, kCt3_lp, kCt3_pp, itemsT_p, itemsT_t, itemsT_ll, isLT_p, isLT_l, eDn_q, eDix_q, kDx1_q, kDx2_q, kDx3_q, kDx4_q, eDget_q, kDg1_q, kDg2_q, kDg3_q, kDg4_q, kDg5_q, eDin_q, kDi1_q, kDi2_q, kDi3_q, kDi4_t, kDi4_f, sPutD_q, kPd1_q, kPd2_q, kPd3_q, kPd4_q, kPd5_q, atD_q, kAtD_q, dicT_p, dicT_o, keyT_i, keyT_s, toD_d, kV_d, sForM_q, kForM_q, loopT_n, loopT_c, kLt1_q, kLt2_n, kLt2_r, eM0_q, kM0_q, iR3_q, runF_q, kRun_r, kRun_n, cutT_s, gStarts, gFind, startE, T.toDs, T.toD, cleanT, tyD, tyOk, List.length_cons, List.length_nil, List.length_map, List.map_cons, List.map_nil, List.replicate, List.cons_append, List.nil_append, List.getElem?_cons_zero, List.getElem?_cons_succ, List.set_cons_zero, List.set_cons_succ, Nat.reduceAdd, Nat.reduceSub, Nat.reduceLT, Nat.reduceLeDiff, Nat.zero_add, gAdd_i, gAdd_g, gSub_i, gAddI_i, gMul_l, gMul_r, gDiv_i, gMod_i, gPow_i, gMulA_g, cLt_i, cLe_i, cGt_i, cGe_i, eqQ_i, neQ_i, eqQ_g, neQ_g, eqQ_ints, neQ_ints, eqQ_b, neQ_b, inQ_g, notInQ_g, gLen_g, gStr_i, gStr_s, gSum_p, gSum_l, gLen_p, gLen_l, toD_l, toDs_p, allP_map, ixT_lst, ixT_pl, ixT_pt, ixT_sg, signsD_g, atI_0, atI_1, atI_2, atI_3, atI_4, atI_5, atI_6, ofS, sg_len, ifLe, ifLt, rng_len, decide_true, decide_false, Bool.false_eq_true, Bool.not_true, Bool.not_false, Int.reduceLT, Int.reduceLE, Int.reduceEq, kit_ii, kit_ib, kit_ll, kit_bb, kit_bi, kit_ss, kit_tt, kit_tl, kit_lt, kit_ls, kit_li, kit_lb, kit_is, kit_si, kit_sb, kit_ti, kit_tb, kit_ts]; rfl
  | cons c r =>
    have l1 : (1 : Int) ≤ ((c :: r).length : Int) := by simp; omega
    have gl := gLen_g (l := c :: r) (by omega)
    have hs := starts1 c 48 r
    have gi := int_ok (w := c :: r)
    have hh : (c :: r).head? = some c := rfl
    generalize hg : c :: r = w at *
    have b1 := bLe_t l1
    have l1' : 1 ≤ w.length := by omega
    by_cases l2 : w.length ≤ 13
    · have b2 := bLe_t (show (w.length : Int) ≤ 13 by omega)
      cases hd : dgt w with
      | false => rw [hd] at h2; simp (disch := omega) only [h2, gl, b1, b2, ↓reduceIte, and_self, bindS, mapS, eV_q, kV_p, kV_l, kV_t, eM_q, kM_s, eB_q, kB_s, eC_q, eW_q, kW_p, aN_q, aC_q, kAC_q, kCons_q, aMv_q, kMv_s, kMv2_q, kMv3_s, eL_q, kL_q, eT_q, kT_q, kP_q, kBl_q, kT2_q, eFz_q, kFz_q, eOp_q, kOp1_q, kOp2_q, eCmp_q, kCm1_q, kCm2_q, eNeg_q, kNeg_q, eChain_q, kCh1_q, kCh2_q, kCh3_q, cT_q, kcT_q, cNot_q, kNot_q, cAnd_q, kcAnd_t, kcAnd_f, cOr_q, kcOr_t, kcOr_f, eIf_q, keIf_t, keIf_f, eAnd_q, keAnd_t, keAnd_f, eOr_q, keOr_t, keOr_f, eNot_q, keNot_q, sIf_q, kcIf_t, kcIf_f, eB1_q, kB1_q, eI2_q, kI2_q, eIsi_q, kIsi_q, kLst_q, eList_q, kList_q, kTpl_q, eTuple_q, kTuple_q, eCall_q, kCall_q, kCall2_q, eCallB_q, kCallB_q, kCl_q, allP_n, allP_c, eIx_q, kIx1_q, kIx2_q, oN_q, oS_q, koS_q, eSl_q, kSl1_q, kSl2_q, kSl3_q, cutT_p, cutT_l, sNx_q, sBk_q, sCt_q, sRetN_q, sSeq_q, kSeq_n, kSeq_r, kSeq_b, kSeq_c, sRet_q, kRet_q, sSet_q, kSet_q, sDrop_q, kDrop_q, gNm_q, gEnd_q, gAnd_q, gTp_q, kTp_q, partsT_p, partsT_t, kNx_q, sAsg_q, kAsg_q, sFor_q, kFor_q, loop_n, loop_c, kLp1_q, kLp2_n, kLp2_c, kLp2_b, kLp2_r, iL_q, kiL_q, iTp_q, kiTp_q, iSg_q, kiSg_q, iR1_q, kR1_q, iR2_q, kR2_q, iEn_q, kEn_q, iZp_q, kZp_q, kZp_t, sForV_q, kForV_q, kForV1_q, kForV2_n, kForV2_r, atL_q, kAtL_q, sApp_q, kApp_q, kApp1_q, kApp2_q, sPut_q, kPut_q, kPut1_q, kPut2_q, kPut3_q, kPut4_q, kPutEnd_q, asI_q, sAugIx_q, kAx_q, kAx0_q, kAx1_q, kAx2_q, kAx3_q, kAx4_q, kAx5_q, kAx6_q, kAx7_q, kAx8_q, sAug_q, kAug_q, kAug2_q, kAug3_q, comp_n, comp_c, kCp1_q, kCp2_t, kCp2_f, kCp3_q, kCp4_q, eComp_q, kComp_q, kLs_q, cYes_q, wipe_n, wipe_c, eM1_q, kM11_q, kM12_q, eSplit_q, kSp1_q, kSp2_q, eJoin_q, kJn1_q, kJn2_q, kJn3_q, kJn4_q, eCat_q, kCt0_q, kCt1_q, kCt2_q, kCt3_pl, kCt3_ll, kCt3_lp, kCt3_pp, itemsT_p, itemsT_t, itemsT_ll, isLT_p, isLT_l, eDn_q, eDix_q, kDx1_q, kDx2_q, kDx3_q, kDx4_q, eDget_q, kDg1_q, kDg2_q, kDg3_q, kDg4_q, kDg5_q, eDin_q, kDi1_q, kDi2_q, kDi3_q, kDi4_t, kDi4_f, sPutD_q, kPd1_q, kPd2_q, kPd3_q, kPd4_q, kPd5_q, atD_q, kAtD_q, dicT_p, dicT_o, keyT_i, keyT_s, toD_d, kV_d, sForM_q, kForM_q, loopT_n, loopT_c, kLt1_q, kLt2_n, kLt2_r, eM0_q, kM0_q, iR3_q, runF_q, kRun_r, kRun_n, cutT_s, gStarts, gFind, startE, T.toDs, T.toD, cleanT, tyD, tyOk, List.length_cons, List.length_nil, List.length_map, List.map_cons, List.map_nil, List.replicate, List.cons_append, List.nil_append, List.getElem?_cons_zero, List.getElem?_cons_succ, List.set_cons_zero, List.set_cons_succ, Nat.reduceAdd, Nat.reduceSub, Nat.reduceLT, Nat.reduceLeDiff, Nat.zero_add, gAdd_i, gAdd_g, gSub_i, gAddI_i, gMul_l, gMul_r, gDiv_i, gMod_i, gPow_i, gMulA_g, cLt_i, cLe_i, cGt_i, cGe_i, eqQ_i, neQ_i, eqQ_g, neQ_g, eqQ_ints, neQ_ints, eqQ_b, neQ_b, inQ_g, notInQ_g, gLen_g, gStr_i, gStr_s, gSum_p, gSum_l, gLen_p, gLen_l, toD_l, toDs_p, allP_map, ixT_lst, ixT_pl, ixT_pt, ixT_sg, signsD_g, atI_0, atI_1, atI_2, atI_3, atI_4, atI_5, atI_6, ofS, sg_len, ifLe, ifLt, rng_len, decide_true, decide_false, Bool.false_eq_true, Bool.not_true, Bool.not_false, Int.reduceLT, Int.reduceLE, Int.reduceEq, kit_ii, kit_ib, kit_ll, kit_bb, kit_bi, kit_ss, kit_tt, kit_tl, kit_lt, kit_ls, kit_li, kit_lb, kit_is, kit_si, kit_sb, kit_ti, kit_tb, kit_ts]; simp
      | true =>
        rw [hd] at h2
        have gi' := gi hd l1' l2
        by_cases hc : c = 48
        · by_cases hz : w = [48]
          · have hz' : (w = [48]) = True := eq_true hz
            simp (disch := omega) only [h2, gl, b1, b2, e0, hs, hc, hz', gi', ↓reduceIte, and_self, bindS, mapS, eV_q, kV_p, kV_l, kV_t, eM_q, kM_s, eB_q, kB_s, eC_q, eW_q, kW_p, aN_q, aC_q, kAC_q, kCons_q, aMv_q, kMv_s, kMv2_q, kMv3_s, eL_q, kL_q, eT_q, kT_q, kP_q, kBl_q, kT2_q, eFz_q, kFz_q, eOp_q, kOp1_q, kOp2_q, eCmp_q, kCm1_q, kCm2_q, eNeg_q, kNeg_q, eChain_q, kCh1_q, kCh2_q, kCh3_q, cT_q, kcT_q, cNot_q, kNot_q, cAnd_q, kcAnd_t, kcAnd_f, cOr_q, kcOr_t, kcOr_f, eIf_q, keIf_t, keIf_f, eAnd_q, keAnd_t, keAnd_f, eOr_q, keOr_t, keOr_f, eNot_q, keNot_q, sIf_q, kcIf_t, kcIf_f, eB1_q, kB1_q, eI2_q, kI2_q, eIsi_q, kIsi_q, kLst_q, eList_q, kList_q, kTpl_q, eTuple_q, kTuple_q, eCall_q, kCall_q, kCall2_q, eCallB_q, kCallB_q, kCl_q, allP_n, allP_c, eIx_q, kIx1_q, kIx2_q, oN_q, oS_q, koS_q, eSl_q, kSl1_q, kSl2_q, kSl3_q, cutT_p, cutT_l, sNx_q, sBk_q, sCt_q, sRetN_q, sSeq_q, kSeq_n, kSeq_r, kSeq_b, kSeq_c, sRet_q, kRet_q, sSet_q, kSet_q, sDrop_q, kDrop_q, gNm_q, gEnd_q, gAnd_q, gTp_q, kTp_q, partsT_p, partsT_t, kNx_q, sAsg_q, kAsg_q, sFor_q, kFor_q, loop_n, loop_c, kLp1_q, kLp2_n, kLp2_c, kLp2_b, kLp2_r, iL_q, kiL_q, iTp_q, kiTp_q, iSg_q, kiSg_q, iR1_q, kR1_q, iR2_q, kR2_q, iEn_q, kEn_q, iZp_q, kZp_q, kZp_t, sForV_q, kForV_q, kForV1_q, kForV2_n, kForV2_r, atL_q, kAtL_q, sApp_q, kApp_q, kApp1_q, kApp2_q, sPut_q, kPut_q, kPut1_q, kPut2_q, kPut3_q, kPut4_q, kPutEnd_q, asI_q, sAugIx_q, kAx_q, kAx0_q, kAx1_q, kAx2_q, kAx3_q, kAx4_q, kAx5_q, kAx6_q, kAx7_q, kAx8_q, sAug_q, kAug_q, kAug2_q, kAug3_q, comp_n, comp_c, kCp1_q, kCp2_t, kCp2_f, kCp3_q, kCp4_q, eComp_q, kComp_q, kLs_q, cYes_q, wipe_n, wipe_c, eM1_q, kM11_q, kM12_q, eSplit_q, kSp1_q, kSp2_q, eJoin_q, kJn1_q, kJn2_q, kJn3_q, kJn4_q, eCat_q, kCt0_q, kCt1_q, kCt2_q, kCt3_pl, kCt3_ll, kCt3_lp, kCt3_pp, itemsT_p, itemsT_t, itemsT_ll, isLT_p, isLT_l, eDn_q, eDix_q, kDx1_q, kDx2_q, kDx3_q, kDx4_q, eDget_q, kDg1_q, kDg2_q, kDg3_q, kDg4_q, kDg5_q, eDin_q, kDi1_q, kDi2_q, kDi3_q, kDi4_t, kDi4_f, sPutD_q, kPd1_q, kPd2_q, kPd3_q, kPd4_q, kPd5_q, atD_q, kAtD_q, dicT_p, dicT_o, keyT_i, keyT_s, toD_d, kV_d, sForM_q, kForM_q, loopT_n, loopT_c, kLt1_q, kLt2_n, kLt2_r, eM0_q, kM0_q, iR3_q, runF_q, kRun_r, kRun_n, cutT_s, gStarts, gFind, startE, T.toDs, T.toD, cleanT, tyD, tyOk, List.length_cons, List.length_nil, List.length_map, List.map_cons, List.map_nil, List.replicate, List.cons_append, List.nil_append, List.getElem?_cons_zero, List.getElem?_cons_succ, List.set_cons_zero, List.set_cons_succ, Nat.reduceAdd, Nat.reduceSub, Nat.reduceLT, Nat.reduceLeDiff, Nat.zero_add, gAdd_i, gAdd_g, gSub_i, gAddI_i, gMul_l, gMul_r, gDiv_i, gMod_i, gPow_i, gMulA_g, cLt_i, cLe_i, cGt_i, cGe_i, eqQ_i, neQ_i, eqQ_g, neQ_g, eqQ_ints, neQ_ints, eqQ_b, neQ_b, inQ_g, notInQ_g, gLen_g, gStr_i, gStr_s, gSum_p, gSum_l, gLen_p, gLen_l, toD_l, toDs_p, allP_map, ixT_lst, ixT_pl, ixT_pt, ixT_sg, signsD_g, atI_0, atI_1, atI_2, atI_3, atI_4, atI_5, atI_6, ofS, sg_len, ifLe, ifLt, rng_len, decide_true, decide_false, Bool.false_eq_true, Bool.not_true, Bool.not_false, Int.reduceLT, Int.reduceLE, Int.reduceEq, kit_ii, kit_ib, kit_ll, kit_bb, kit_bi, kit_ss, kit_tt, kit_tl, kit_lt, kit_ls, kit_li, kit_lb, kit_is, kit_si, kit_sb, kit_ti, kit_tb, kit_ts]
            simp [hh, hc, l1', l2, hz']
          · simp (disch := omega) only [h2, gl, b1, b2, e0, hs, hc, hz, gi', ↓reduceIte, and_self, bindS, mapS, eV_q, kV_p, kV_l, kV_t, eM_q, kM_s, eB_q, kB_s, eC_q, eW_q, kW_p, aN_q, aC_q, kAC_q, kCons_q, aMv_q, kMv_s, kMv2_q, kMv3_s, eL_q, kL_q, eT_q, kT_q, kP_q, kBl_q, kT2_q, eFz_q, kFz_q, eOp_q, kOp1_q, kOp2_q, eCmp_q, kCm1_q, kCm2_q, eNeg_q, kNeg_q, eChain_q, kCh1_q, kCh2_q, kCh3_q, cT_q, kcT_q, cNot_q, kNot_q, cAnd_q, kcAnd_t, kcAnd_f, cOr_q, kcOr_t, kcOr_f, eIf_q, keIf_t, keIf_f, eAnd_q, keAnd_t, keAnd_f, eOr_q, keOr_t, keOr_f, eNot_q, keNot_q, sIf_q, kcIf_t, kcIf_f, eB1_q, kB1_q, eI2_q, kI2_q, eIsi_q, kIsi_q, kLst_q, eList_q, kList_q, kTpl_q, eTuple_q, kTuple_q, eCall_q, kCall_q, kCall2_q, eCallB_q, kCallB_q, kCl_q, allP_n, allP_c, eIx_q, kIx1_q, kIx2_q, oN_q, oS_q, koS_q, eSl_q, kSl1_q, kSl2_q, kSl3_q, cutT_p, cutT_l, sNx_q, sBk_q, sCt_q, sRetN_q, sSeq_q, kSeq_n, kSeq_r, kSeq_b, kSeq_c, sRet_q, kRet_q, sSet_q, kSet_q, sDrop_q, kDrop_q, gNm_q, gEnd_q, gAnd_q, gTp_q, kTp_q, partsT_p, partsT_t, kNx_q, sAsg_q, kAsg_q, sFor_q, kFor_q, loop_n, loop_c, kLp1_q, kLp2_n, kLp2_c, kLp2_b, kLp2_r, iL_q, kiL_q, iTp_q, kiTp_q, iSg_q, kiSg_q, iR1_q, kR1_q, iR2_q, kR2_q, iEn_q, kEn_q, iZp_q, kZp_q, kZp_t, sForV_q, kForV_q, kForV1_q, kForV2_n, kForV2_r, atL_q, kAtL_q, sApp_q, kApp_q, kApp1_q, kApp2_q, sPut_q, kPut_q, kPut1_q, kPut2_q, kPut3_q, kPut4_q, kPutEnd_q, asI_q, sAugIx_q, kAx_q, kAx0_q, kAx1_q, kAx2_q, kAx3_q, kAx4_q, kAx5_q, kAx6_q, kAx7_q, kAx8_q, sAug_q, kAug_q, kAug2_q, kAug3_q, comp_n, comp_c, kCp1_q, kCp2_t, kCp2_f, kCp3_q, kCp4_q, eComp_q, kComp_q, kLs_q, cYes_q, wipe_n, wipe_c, eM1_q, kM11_q, kM12_q, eSplit_q, kSp1_q, kSp2_q, eJoin_q, kJn1_q, kJn2_q, kJn3_q, kJn4_q, eCat_q, kCt0_q, kCt1_q, kCt2_q, kCt3_pl, kCt3_ll, kCt3_lp, kCt3_pp, itemsT_p, itemsT_t, itemsT_ll, isLT_p, isLT_l, eDn_q, eDix_q, kDx1_q, kDx2_q, kDx3_q, kDx4_q, eDget_q, kDg1_q, kDg2_q, kDg3_q, kDg4_q, kDg5_q, eDin_q, kDi1_q, kDi2_q, kDi3_q, kDi4_t, kDi4_f, sPutD_q, kPd1_q, kPd2_q, kPd3_q, kPd4_q, kPd5_q, atD_q, kAtD_q, dicT_p, dicT_o, keyT_i, keyT_s, toD_d, kV_d, sForM_q, kForM_q, loopT_n, loopT_c, kLt1_q, kLt2_n, kLt2_r, eM0_q, kM0_q, iR3_q, runF_q, kRun_r, kRun_n, cutT_s, gStarts, gFind, startE, T.toDs, T.toD, cleanT, tyD, tyOk, List.length_cons, List.length_nil, List.length_map, List.map_cons, List.map_nil, List.replicate, List.cons_append, List.nil_append, List.getElem?_cons_zero, List.getElem?_cons_succ, List.set_cons_zero, List.set_cons_succ, Nat.reduceAdd, Nat.reduceSub, Nat.reduceLT, Nat.reduceLeDiff, Nat.zero_add, gAdd_i, gAdd_g, gSub_i, gAddI_i, gMul_l, gMul_r, gDiv_i, gMod_i, gPow_i, gMulA_g, cLt_i, cLe_i, cGt_i, cGe_i, eqQ_i, neQ_i, eqQ_g, neQ_g, eqQ_ints, neQ_ints, eqQ_b, neQ_b, inQ_g, notInQ_g, gLen_g, gStr_i, gStr_s, gSum_p, gSum_l, gLen_p, gLen_l, toD_l, toDs_p, allP_map, ixT_lst, ixT_pl, ixT_pt, ixT_sg, signsD_g, atI_0, atI_1, atI_2, atI_3, atI_4, atI_5, atI_6, ofS, sg_len, ifLe, ifLt, rng_len, decide_true, decide_false, Bool.false_eq_true, Bool.not_true, Bool.not_false, Int.reduceLT, Int.reduceLE, Int.reduceEq, kit_ii, kit_ib, kit_ll, kit_bb, kit_bi, kit_ss, kit_tt, kit_tl, kit_lt, kit_ls, kit_li, kit_lb, kit_is, kit_si, kit_sb, kit_ti, kit_tb, kit_ts]
            simp [hh, hc, hz, l1', l2]
        · simp (disch := omega) only [h2, gl, b1, b2, e0, hs, hc, gi', ↓reduceIte, and_self, bindS, mapS, eV_q, kV_p, kV_l, kV_t, eM_q, kM_s, eB_q, kB_s, eC_q, eW_q, kW_p, aN_q, aC_q, kAC_q, kCons_q, aMv_q, kMv_s, kMv2_q, kMv3_s, eL_q, kL_q, eT_q, kT_q, kP_q, kBl_q, kT2_q, eFz_q, kFz_q, eOp_q, kOp1_q, kOp2_q, eCmp_q, kCm1_q, kCm2_q, eNeg_q, kNeg_q, eChain_q, kCh1_q, kCh2_q, kCh3_q, cT_q, kcT_q, cNot_q, kNot_q, cAnd_q, kcAnd_t, kcAnd_f, cOr_q, kcOr_t, kcOr_f, eIf_q, keIf_t, keIf_f, eAnd_q, keAnd_t, keAnd_f, eOr_q, keOr_t, keOr_f, eNot_q, keNot_q, sIf_q, kcIf_t, kcIf_f, eB1_q, kB1_q, eI2_q, kI2_q, eIsi_q, kIsi_q, kLst_q, eList_q, kList_q, kTpl_q, eTuple_q, kTuple_q, eCall_q, kCall_q, kCall2_q, eCallB_q, kCallB_q, kCl_q, allP_n, allP_c, eIx_q, kIx1_q, kIx2_q, oN_q, oS_q, koS_q, eSl_q, kSl1_q, kSl2_q, kSl3_q, cutT_p, cutT_l, sNx_q, sBk_q, sCt_q, sRetN_q, sSeq_q, kSeq_n, kSeq_r, kSeq_b, kSeq_c, sRet_q, kRet_q, sSet_q, kSet_q, sDrop_q, kDrop_q, gNm_q, gEnd_q, gAnd_q, gTp_q, kTp_q, partsT_p, partsT_t, kNx_q, sAsg_q, kAsg_q, sFor_q, kFor_q, loop_n, loop_c, kLp1_q, kLp2_n, kLp2_c, kLp2_b, kLp2_r, iL_q, kiL_q, iTp_q, kiTp_q, iSg_q, kiSg_q, iR1_q, kR1_q, iR2_q, kR2_q, iEn_q, kEn_q, iZp_q, kZp_q, kZp_t, sForV_q, kForV_q, kForV1_q, kForV2_n, kForV2_r, atL_q, kAtL_q, sApp_q, kApp_q, kApp1_q, kApp2_q, sPut_q, kPut_q, kPut1_q, kPut2_q, kPut3_q, kPut4_q, kPutEnd_q, asI_q, sAugIx_q, kAx_q, kAx0_q, kAx1_q, kAx2_q, kAx3_q, kAx4_q, kAx5_q, kAx6_q, kAx7_q, kAx8_q, sAug_q, kAug_q, kAug2_q, kAug3_q, comp_n, comp_c, kCp1_q, kCp2_t, kCp2_f, kCp3_q, kCp4_q, eComp_q, kComp_q, kLs_q, cYes_q, wipe_n, wipe_c, eM1_q, kM11_q, kM12_q, eSplit_q, kSp1_q, kSp2_q, eJoin_q, kJn1_q, kJn2_q, kJn3_q, kJn4_q, eCat_q, kCt0_q, kCt1_q, kCt2_q, kCt3_pl, kCt3_ll, kCt3_lp, kCt3_pp, itemsT_p, itemsT_t, itemsT_ll, isLT_p, isLT_l, eDn_q, eDix_q, kDx1_q, kDx2_q, kDx3_q, kDx4_q, eDget_q, kDg1_q, kDg2_q, kDg3_q, kDg4_q, kDg5_q, eDin_q, kDi1_q, kDi2_q, kDi3_q, kDi4_t, kDi4_f, sPutD_q, kPd1_q, kPd2_q, kPd3_q, kPd4_q, kPd5_q, atD_q, kAtD_q, dicT_p, dicT_o, keyT_i, keyT_s, toD_d, kV_d, sForM_q, kForM_q, loopT_n, loopT_c, kLt1_q, kLt2_n, kLt2_r, eM0_q, kM0_q, iR3_q, runF_q, kRun_r, kRun_n, cutT_s, gStarts, gFind, startE, T.toDs, T.toD, cleanT, tyD, tyOk, List.length_cons, List.length_nil, List.length_map, List.map_cons, List.map_nil, List.replicate, List.cons_append, List.nil_append, List.getElem?_cons_zero, List.getElem?_cons_succ, List.set_cons_zero, List.set_cons_succ, Nat.reduceAdd, Nat.reduceSub, Nat.reduceLT, Nat.reduceLeDiff, Nat.zero_add, gAdd_i, gAdd_g, gSub_i, gAddI_i, gMul_l, gMul_r, gDiv_i, gMod_i, gPow_i, gMulA_g, cLt_i, cLe_i, cGt_i, cGe_i, eqQ_i, neQ_i, eqQ_g, neQ_g, eqQ_ints, neQ_ints, eqQ_b, neQ_b, inQ_g, notInQ_g, gLen_g, gStr_i, gStr_s, gSum_p, gSum_l, gLen_p, gLen_l, toD_l, toDs_p, allP_map, ixT_lst, ixT_pl, ixT_pt, ixT_sg, signsD_g, atI_0, atI_1, atI_2, atI_3, atI_4, atI_5, atI_6, ofS, sg_len, ifLe, ifLt, rng_len, decide_true, decide_false, Bool.false_eq_true, Bool.not_true, Bool.not_false, Int.reduceLT, Int.reduceLE, Int.reduceEq, kit_ii, kit_ib, kit_ll, kit_bb, kit_bi, kit_ss, kit_tt, kit_tl, kit_lt, kit_ls, kit_li, kit_lb, kit_is, kit_si, kit_sb, kit_ti, kit_tb, kit_ts]
          simp [hh, hc, l1', l2]
    · have b2 := bLe_f (show ¬ (w.length : Int) ≤ 13 by omega)
      simp (disch := omega) only [h2, gl, b1, b2, ↓reduceIte, and_self, bindS, mapS, eV_q, kV_p, kV_l, kV_t, eM_q, kM_s, eB_q, kB_s, eC_q, eW_q, kW_p, aN_q, aC_q, kAC_q, kCons_q, aMv_q, kMv_s, kMv2_q, kMv3_s, eL_q, kL_q, eT_q, kT_q, kP_q, kBl_q, kT2_q, eFz_q, kFz_q, eOp_q, kOp1_q, kOp2_q, eCmp_q, kCm1_q, kCm2_q, eNeg_q, kNeg_q, eChain_q, kCh1_q, kCh2_q, kCh3_q, cT_q, kcT_q, cNot_q, kNot_q, cAnd_q, kcAnd_t, kcAnd_f, cOr_q, kcOr_t, kcOr_f, eIf_q, keIf_t, keIf_f, eAnd_q, keAnd_t, keAnd_f, eOr_q, keOr_t, keOr_f, eNot_q, keNot_q, sIf_q, kcIf_t, kcIf_f, eB1_q, kB1_q, eI2_q, kI2_q, eIsi_q, kIsi_q, kLst_q, eList_q, kList_q, kTpl_q, eTuple_q, kTuple_q, eCall_q, kCall_q, kCall2_q, eCallB_q, kCallB_q, kCl_q, allP_n, allP_c, eIx_q, kIx1_q, kIx2_q, oN_q, oS_q, koS_q, eSl_q, kSl1_q, kSl2_q, kSl3_q, cutT_p, cutT_l, sNx_q, sBk_q, sCt_q, sRetN_q, sSeq_q, kSeq_n, kSeq_r, kSeq_b, kSeq_c, sRet_q, kRet_q, sSet_q, kSet_q, sDrop_q, kDrop_q, gNm_q, gEnd_q, gAnd_q, gTp_q, kTp_q, partsT_p, partsT_t, kNx_q, sAsg_q, kAsg_q, sFor_q, kFor_q, loop_n, loop_c, kLp1_q, kLp2_n, kLp2_c, kLp2_b, kLp2_r, iL_q, kiL_q, iTp_q, kiTp_q, iSg_q, kiSg_q, iR1_q, kR1_q, iR2_q, kR2_q, iEn_q, kEn_q, iZp_q, kZp_q, kZp_t, sForV_q, kForV_q, kForV1_q, kForV2_n, kForV2_r, atL_q, kAtL_q, sApp_q, kApp_q, kApp1_q, kApp2_q, sPut_q, kPut_q, kPut1_q, kPut2_q, kPut3_q, kPut4_q, kPutEnd_q, asI_q, sAugIx_q, kAx_q, kAx0_q, kAx1_q, kAx2_q, kAx3_q, kAx4_q, kAx5_q, kAx6_q, kAx7_q, kAx8_q, sAug_q, kAug_q, kAug2_q, kAug3_q, comp_n, comp_c, kCp1_q, kCp2_t, kCp2_f, kCp3_q, kCp4_q, eComp_q, kComp_q, kLs_q, cYes_q, wipe_n, wipe_c, eM1_q, kM11_q, kM12_q, eSplit_q, kSp1_q, kSp2_q, eJoin_q, kJn1_q, kJn2_q, kJn3_q, kJn4_q, eCat_q, kCt0_q, kCt1_q, kCt2_q, kCt3_pl, kCt3_ll, kCt3_lp, kCt3_pp, itemsT_p, itemsT_t, itemsT_ll, isLT_p, isLT_l, eDn_q, eDix_q, kDx1_q, kDx2_q, kDx3_q, kDx4_q, eDget_q, kDg1_q, kDg2_q, kDg3_q, kDg4_q, kDg5_q, eDin_q, kDi1_q, kDi2_q, kDi3_q, kDi4_t, kDi4_f, sPutD_q, kPd1_q, kPd2_q, kPd3_q, kPd4_q, kPd5_q, atD_q, kAtD_q, dicT_p, dicT_o, keyT_i, keyT_s, toD_d, kV_d, sForM_q, kForM_q, loopT_n, loopT_c, kLt1_q, kLt2_n, kLt2_r, eM0_q, kM0_q, iR3_q, runF_q, kRun_r, kRun_n, cutT_s, gStarts, gFind, startE, T.toDs, T.toD, cleanT, tyD, tyOk, List.length_cons, List.length_nil, List.length_map, List.map_cons, List.map_nil, List.replicate, List.cons_append, List.nil_append, List.getElem?_cons_zero, List.getElem?_cons_succ, List.set_cons_zero, List.set_cons_succ, Nat.reduceAdd, Nat.reduceSub, Nat.reduceLT, Nat.reduceLeDiff, Nat.zero_add, gAdd_i, gAdd_g, gSub_i, gAddI_i, gMul_l, gMul_r, gDiv_i, gMod_i, gPow_i, gMulA_g, cLt_i, cLe_i, cGt_i, cGe_i, eqQ_i, neQ_i, eqQ_g, neQ_g, eqQ_ints, neQ_ints, eqQ_b, neQ_b, inQ_g, notInQ_g, gLen_g, gStr_i, gStr_s, gSum_p, gSum_l, gLen_p, gLen_l, toD_l, toDs_p, allP_map, ixT_lst, ixT_pl, ixT_pt, ixT_sg, signsD_g, atI_0, atI_1, atI_2, atI_3, atI_4, atI_5, atI_6, ofS, sg_len, ifLe, ifLt, rng_len, decide_true, decide_false, Bool.false_eq_true, Bool.not_true, Bool.not_false, Int.reduceLT, Int.reduceLE, Int.reduceEq, kit_ii, kit_ib, kit_ll, kit_bb, kit_bi, kit_ss, kit_tt, kit_tl, kit_lt, kit_ls, kit_li, kit_lb, kit_is, kit_si, kit_sb, kit_ti, kit_tb, kit_ts]
      simp [l2]

theorem dg_nat (n : Nat) : dg (n : Int) = TL.numL n := by
  have h := TL.tl_num n
  rw [ofS] at h
  exact h
theorem numL_head : ∀ n : Nat, 1 ≤ n → (TL.numL n).head? ≠ some 48 := by
  intro n
  induction n using Nat.strongRecOn with
  | _ n ih =>
    intro h
    by_cases c : n < 10
    · rw [TL.numL_lt c]
      simp
      omega
    · rw [TL.numL_step (by omega)]
      have h2 := ih (n / 10) (by omega) (by omega)
      have h3 := TL.numL_ne (n / 10)
      cases hz : TL.numL (n / 10) with
      | nil => exact absurd hz h3
      | cons x xs => rw [hz] at h2; exact h2
theorem num_dg {x : Int} (h1 : 1 ≤ x) (h2 : x ≤ 1000000000000) : isNum (dg x) = true ∧ val (dg x) = x.toNat := by
  obtain ⟨n, rfl⟩ := Int.eq_ofNat_of_zero_le (show 0 ≤ x by omega)
  have hn : 1 ≤ n := by omega
  have hl : (TL.numL n).length ≤ 13 := TL.numL_len (by decide) (by omega)
  have hne := TL.numL_ne n
  have hd := TL.numL_digits n
  have hh := numL_head n hn
  rw [dg_nat]
  refine ⟨?_, TL.numL_val n⟩
  have l1 : 1 ≤ (TL.numL n).length := by
    cases hz : TL.numL n with
    | nil => exact absurd hz hne
    | cons x xs => simp
  have hdg : dgt (TL.numL n) = true := List.all_eq_true.mpr fun c hc => decide_eq_true ((cod10 c).mpr (hd c hc))
  unfold isNum
  rw [decide_eq_true l1, decide_eq_true hl, hdg, decide_eq_false hh]
  rfl
theorem upto_ok {x m p : Int} (h1 : 1 ≤ x) (h2 : x ≤ m) (h3 : m ≤ 1000000000000) : phi_number_up_to [.str (sg (dg x)), .int m, .int p] = some (.p (.int x)) := by
  obtain ⟨n1, n2⟩ := num_dg h1 (by omega)
  have hl : (dg x).length ≤ 13 := by
    obtain ⟨n, rfl⟩ := Int.eq_ofNat_of_zero_le (show 0 ≤ x by omega)
    rw [dg_nat]
    exact TL.numL_len (by decide) (by omega)
  have h := numberin_ok (w := dg x) (by omega)
  rw [n1, n2] at h
  rw [if_pos rfl, show ((x.toNat : Nat) : Int) = x by omega] at h
  have hn : isN (.int x) .non = some false := rfl
  unfold phi_number_up_to F_number_up_to
  simp (disch := omega) only [h, hn, bLe_t, ↓reduceIte, and_self, bindS, mapS, eV_q, kV_p, kV_l, kV_t, eM_q, kM_s, eB_q, kB_s, eC_q, eW_q, kW_p, aN_q, aC_q, kAC_q, kCons_q, aMv_q, kMv_s, kMv2_q, kMv3_s, eL_q, kL_q, eT_q, kT_q, kP_q, kBl_q, kT2_q, eFz_q, kFz_q, eOp_q, kOp1_q, kOp2_q, eCmp_q, kCm1_q, kCm2_q, eNeg_q, kNeg_q, eChain_q, kCh1_q, kCh2_q, kCh3_q, cT_q, kcT_q, cNot_q, kNot_q, cAnd_q, kcAnd_t, kcAnd_f, cOr_q, kcOr_t, kcOr_f, eIf_q, keIf_t, keIf_f, eAnd_q, keAnd_t, keAnd_f, eOr_q, keOr_t, keOr_f, eNot_q, keNot_q, sIf_q, kcIf_t, kcIf_f, eB1_q, kB1_q, eI2_q, kI2_q, eIsi_q, kIsi_q, kLst_q, eList_q, kList_q, kTpl_q, eTuple_q, kTuple_q, eCall_q, kCall_q, kCall2_q, eCallB_q, kCallB_q, kCl_q, allP_n, allP_c, eIx_q, kIx1_q, kIx2_q, oN_q, oS_q, koS_q, eSl_q, kSl1_q, kSl2_q, kSl3_q, cutT_p, cutT_l, sNx_q, sBk_q, sCt_q, sRetN_q, sSeq_q, kSeq_n, kSeq_r, kSeq_b, kSeq_c, sRet_q, kRet_q, sSet_q, kSet_q, sDrop_q, kDrop_q, gNm_q, gEnd_q, gAnd_q, gTp_q, kTp_q, partsT_p, partsT_t, kNx_q, sAsg_q, kAsg_q, sFor_q, kFor_q, loop_n, loop_c, kLp1_q, kLp2_n, kLp2_c, kLp2_b, kLp2_r, iL_q, kiL_q, iTp_q, kiTp_q, iSg_q, kiSg_q, iR1_q, kR1_q, iR2_q, kR2_q, iEn_q, kEn_q, iZp_q, kZp_q, kZp_t, sForV_q, kForV_q, kForV1_q, kForV2_n, kForV2_r, atL_q, kAtL_q, sApp_q, kApp_q, kApp1_q, kApp2_q, sPut_q, kPut_q, kPut1_q, kPut2_q, kPut3_q, kPut4_q, kPutEnd_q, asI_q, sAugIx_q, kAx_q, kAx0_q, kAx1_q, kAx2_q, kAx3_q, kAx4_q, kAx5_q, kAx6_q, kAx7_q, kAx8_q, sAug_q, kAug_q, kAug2_q, kAug3_q, comp_n, comp_c, kCp1_q, kCp2_t, kCp2_f, kCp3_q, kCp4_q, eComp_q, kComp_q, kLs_q, cYes_q, wipe_n, wipe_c, eM1_q, kM11_q, kM12_q, eSplit_q, kSp1_q, kSp2_q, eJoin_q, kJn1_q, kJn2_q, kJn3_q, kJn4_q, eCat_q, kCt0_q, kCt1_q, kCt2_q, kCt3_pl, kCt3_ll, kCt3_lp, kCt3_pp, itemsT_p, itemsT_t, itemsT_ll, isLT_p, isLT_l, eDn_q, eDix_q, kDx1_q, kDx2_q, kDx3_q, kDx4_q, eDget_q, kDg1_q, kDg2_q, kDg3_q, kDg4_q, kDg5_q, eDin_q, kDi1_q, kDi2_q, kDi3_q, kDi4_t, kDi4_f, sPutD_q, kPd1_q, kPd2_q, kPd3_q, kPd4_q, kPd5_q, atD_q, kAtD_q, dicT_p, dicT_o, keyT_i, keyT_s, toD_d, kV_d, sForM_q, kForM_q, loopT_n, loopT_c, kLt1_q, kLt2_n, kLt2_r, eM0_q, kM0_q, iR3_q, runF_q, kRun_r, kRun_n, cutT_s, gStarts, gFind, startE, T.toDs, T.toD, cleanT, tyD, tyOk, List.length_cons, List.length_nil, List.length_map, List.map_cons, List.map_nil, List.replicate, List.cons_append, List.nil_append, List.getElem?_cons_zero, List.getElem?_cons_succ, List.set_cons_zero, List.set_cons_succ, Nat.reduceAdd, Nat.reduceSub, Nat.reduceLT, Nat.reduceLeDiff, Nat.zero_add, gAdd_i, gAdd_g, gSub_i, gAddI_i, gMul_l, gMul_r, gDiv_i, gMod_i, gPow_i, gMulA_g, cLt_i, cLe_i, cGt_i, cGe_i, eqQ_i, neQ_i, eqQ_g, neQ_g, eqQ_ints, neQ_ints, eqQ_b, neQ_b, inQ_g, notInQ_g, gLen_g, gStr_i, gStr_s, gSum_p, gSum_l, gLen_p, gLen_l, toD_l, toDs_p, allP_map, ixT_lst, ixT_pl, ixT_pt, ixT_sg, signsD_g, atI_0, atI_1, atI_2, atI_3, atI_4, atI_5, atI_6, ofS, sg_len, ifLe, ifLt, rng_len, decide_true, decide_false, Bool.false_eq_true, Bool.not_true, Bool.not_false, Int.reduceLT, Int.reduceLE, Int.reduceEq, kit_ii, kit_ib, kit_ll, kit_bb, kit_bi, kit_ss, kit_tt, kit_tl, kit_lt, kit_ls, kit_li, kit_lb, kit_is, kit_si, kit_sb, kit_ti, kit_tb, kit_ts]
theorem nameat_ok {w : List Nat} {p : Int} (hw : w.length ≤ 1000) (h : isName w = true) : phi_name_at [.str (sg w), .int p] = some (.p (.str (sg w))) := by
  have h1 := isname_ok hw
  rw [h] at h1
  unfold phi_name_at F_name_at
  simp (disch := omega) only [h1, ↓reduceIte, and_self, bindS, mapS, eV_q, kV_p, kV_l, kV_t, eM_q, kM_s, eB_q, kB_s, eC_q, eW_q, kW_p, aN_q, aC_q, kAC_q, kCons_q, aMv_q, kMv_s, kMv2_q, kMv3_s, eL_q, kL_q, eT_q, kT_q, kP_q, kBl_q, kT2_q, eFz_q, kFz_q, eOp_q, kOp1_q, kOp2_q, eCmp_q, kCm1_q, kCm2_q, eNeg_q, kNeg_q, eChain_q, kCh1_q, kCh2_q, kCh3_q, cT_q, kcT_q, cNot_q, kNot_q, cAnd_q, kcAnd_t, kcAnd_f, cOr_q, kcOr_t, kcOr_f, eIf_q, keIf_t, keIf_f, eAnd_q, keAnd_t, keAnd_f, eOr_q, keOr_t, keOr_f, eNot_q, keNot_q, sIf_q, kcIf_t, kcIf_f, eB1_q, kB1_q, eI2_q, kI2_q, eIsi_q, kIsi_q, kLst_q, eList_q, kList_q, kTpl_q, eTuple_q, kTuple_q, eCall_q, kCall_q, kCall2_q, eCallB_q, kCallB_q, kCl_q, allP_n, allP_c, eIx_q, kIx1_q, kIx2_q, oN_q, oS_q, koS_q, eSl_q, kSl1_q, kSl2_q, kSl3_q, cutT_p, cutT_l, sNx_q, sBk_q, sCt_q, sRetN_q, sSeq_q, kSeq_n, kSeq_r, kSeq_b, kSeq_c, sRet_q, kRet_q, sSet_q, kSet_q, sDrop_q, kDrop_q, gNm_q, gEnd_q, gAnd_q, gTp_q, kTp_q, partsT_p, partsT_t, kNx_q, sAsg_q, kAsg_q, sFor_q, kFor_q, loop_n, loop_c, kLp1_q, kLp2_n, kLp2_c, kLp2_b, kLp2_r, iL_q, kiL_q, iTp_q, kiTp_q, iSg_q, kiSg_q, iR1_q, kR1_q, iR2_q, kR2_q, iEn_q, kEn_q, iZp_q, kZp_q, kZp_t, sForV_q, kForV_q, kForV1_q, kForV2_n, kForV2_r, atL_q, kAtL_q, sApp_q, kApp_q, kApp1_q, kApp2_q, sPut_q, kPut_q, kPut1_q, kPut2_q, kPut3_q, kPut4_q, kPutEnd_q, asI_q, sAugIx_q, kAx_q, kAx0_q, kAx1_q, kAx2_q, kAx3_q, kAx4_q, kAx5_q, kAx6_q, kAx7_q, kAx8_q, sAug_q, kAug_q, kAug2_q, kAug3_q, comp_n, comp_c, kCp1_q, kCp2_t, kCp2_f, kCp3_q, kCp4_q, eComp_q, kComp_q, kLs_q, cYes_q, wipe_n, wipe_c, eM1_q, kM11_q, kM12_q, eSplit_q, kSp1_q, kSp2_q, eJoin_q, kJn1_q, kJn2_q, kJn3_q, kJn4_q, eCat_q, kCt0_q, kCt1_q, kCt2_q, kCt3_pl, kCt3_ll, kCt3_lp, kCt3_pp, itemsT_p, itemsT_t, itemsT_ll, isLT_p, isLT_l, eDn_q, eDix_q, kDx1_q, kDx2_q, kDx3_q, kDx4_q, eDget_q, kDg1_q, kDg2_q, kDg3_q, kDg4_q, kDg5_q, eDin_q, kDi1_q, kDi2_q, kDi3_q, kDi4_t, kDi4_f, sPutD_q, kPd1_q, kPd2_q, kPd3_q, kPd4_q, kPd5_q, atD_q, kAtD_q, dicT_p, dicT_o, keyT_i, keyT_s, toD_d, kV_d, sForM_q, kForM_q, loopT_n, loopT_c, kLt1_q, kLt2_n, kLt2_r, eM0_q, kM0_q, iR3_q, runF_q, kRun_r, kRun_n, cutT_s, gStarts, gFind, startE, T.toDs, T.toD, cleanT, tyD, tyOk, List.length_cons, List.length_nil, List.length_map, List.map_cons, List.map_nil, List.replicate, List.cons_append, List.nil_append, List.getElem?_cons_zero, List.getElem?_cons_succ, List.set_cons_zero, List.set_cons_succ, Nat.reduceAdd, Nat.reduceSub, Nat.reduceLT, Nat.reduceLeDiff, Nat.zero_add, gAdd_i, gAdd_g, gSub_i, gAddI_i, gMul_l, gMul_r, gDiv_i, gMod_i, gPow_i, gMulA_g, cLt_i, cLe_i, cGt_i, cGe_i, eqQ_i, neQ_i, eqQ_g, neQ_g, eqQ_ints, neQ_ints, eqQ_b, neQ_b, inQ_g, notInQ_g, gLen_g, gStr_i, gStr_s, gSum_p, gSum_l, gLen_p, gLen_l, toD_l, toDs_p, allP_map, ixT_lst, ixT_pl, ixT_pt, ixT_sg, signsD_g, atI_0, atI_1, atI_2, atI_3, atI_4, atI_5, atI_6, ofS, sg_len, ifLe, ifLt, rng_len, decide_true, decide_false, Bool.false_eq_true, Bool.not_true, Bool.not_false, Int.reduceLT, Int.reduceLE, Int.reduceEq, kit_ii, kit_ib, kit_ll, kit_bb, kit_bi, kit_ss, kit_tt, kit_tl, kit_lt, kit_ls, kit_li, kit_lb, kit_is, kit_si, kit_sb, kit_ti, kit_tb, kit_ts]
/-! ### a row cut at its blanks -/
def toks (l : List Nat) : List (List Nat) := (TL.spl [32] 0 [] l).filter fun w => !decide (w = [])
theorem spl_app : ∀ (x acc y : List Nat), TL.spl [32] 0 acc (x ++ 32 :: y) = TL.spl [32] 0 acc x ++ TL.spl [32] 0 [] y
  | [], acc, y => by
    rw [List.nil_append, TL.spl_hit (by simp [TL.pre]), TL.spl_nil]; rfl
  | c :: x, acc, y => by
    rw [List.cons_append]
    by_cases h : c = 32
    · subst h
      rw [TL.spl_hit (by simp [TL.pre]), TL.spl_hit (by simp [TL.pre])]
      show acc :: TL.spl [32] 0 [] (x ++ 32 :: y) = _
      rw [spl_app x [] y]; rfl
    · rw [TL.spl_miss (TL.pre_of_head _ _ h), TL.spl_miss (TL.pre_of_head _ _ h)]
      exact spl_app x (acc ++ [c]) y
theorem toks_app (x y : List Nat) : toks (x ++ 32 :: y) = toks x ++ toks y := by
  unfold toks
  rw [spl_app, List.filter_append]
theorem toks_nil : toks [] = [] := by
  unfold toks; rw [TL.spl_nil]; rfl
theorem toks_word {w : List Nat} (h : 32 ∉ w) (hn : w ≠ []) : toks w = [w] := by
  unfold toks
  rw [TL.spl_last1 h, List.nil_append]
  simp [hn]
theorem toks_end (x : List Nat) : ∀ n : Nat, toks (x ++ List.replicate n 32) = toks x
  | 0 => by simp
  | n + 1 => by
    rw [List.replicate_succ', ← List.append_assoc, show x ++ List.replicate n 32 ++ [32] = (x ++ List.replicate n 32) ++ 32 :: [] from rfl, toks_app, toks_end x n, toks_nil, List.append_nil]
theorem toks_gap (x y : List Nat) (n : Nat) (hn : 1 ≤ n) : toks (x ++ List.replicate n 32 ++ y) = toks x ++ toks y := by
  obtain ⟨m, rfl⟩ : ∃ m, n = m + 1 := ⟨n - 1, by omega⟩
  rw [List.replicate_succ', ← List.append_assoc, List.append_assoc _ [32] y, show [32] ++ y = 32 :: y from rfl, toks_app, toks_end]
theorem toks_head (y : List Nat) (n : Nat) : toks (List.replicate n 32 ++ y) = toks y := by
  cases n with
  | zero => rfl
  | succ n =>
    have := toks_gap [] y (n + 1) (by omega)
    rwa [List.nil_append, toks_nil, List.nil_append] at this
end LW

set_option Elab.async false
set_option linter.all false
set_option maxRecDepth 100000
set_option maxHeartbeats 2000000
namespace LW
open PySem PySem.Spec PyProof.Rows L2 DL
abbrev wD (w : List Nat) : D := .str (sg w)
theorem split_sp (l : List Nat) : Txt.split (sg l) (sg [32]) = (TL.spl [32] 0 [] l).map sg := by
  apply TL.map_tl_inj
  rw [TL.split_spl _ (sg [32]) (by simp [TL.tl]) (TL.kind_ok (by decide +kernel)), List.map_map]
  show TL.spl [32] 0 [] l = (TL.spl [32] 0 [] l).map fun x => x
  rw [List.map_id']
theorem toks_comp (a0 a1 a4 a5 : Option T) : ∀ ls : List (List Nat), compD [3] (gNm 3) (cT (eCmp neQ (eB 3) (eC (.str (sg []))))) (eV 3) (ls.map wD) [a0, a1, none, none, a4, a5] = some (((ls.filter fun w => !decide (w = [])).map wD).map T.p, [a0, a1, none, none, a4, a5])
  | [] => rfl
  | l :: ls => by
    have ih := toks_comp a0 a1 a4 a5 ls
    rw [List.map_cons]
    by_cases h : l = []
    · rw [List.filter_cons_of_neg (by simp [h])]
      simp (disch := omega) only [ih, h, ↓reduceIte, and_self, bindS, mapS, eV_q, kV_p, kV_l, kV_t, eM_q, kM_s, eB_q, kB_s, eC_q, eW_q, kW_p, aN_q, aC_q, kAC_q, kCons_q, aMv_q, kMv_s, kMv2_q, kMv3_s, eL_q, kL_q, eT_q, kT_q, kP_q, kBl_q, kT2_q, eFz_q, kFz_q, eOp_q, kOp1_q, kOp2_q, eCmp_q, kCm1_q, kCm2_q, eNeg_q, kNeg_q, eChain_q, kCh1_q, kCh2_q, kCh3_q, cT_q, kcT_q, cNot_q, kNot_q, cAnd_q, kcAnd_t, kcAnd_f, cOr_q, kcOr_t, kcOr_f, eIf_q, keIf_t, keIf_f, eAnd_q, keAnd_t, keAnd_f, eOr_q, keOr_t, keOr_f, eNot_q, keNot_q, sIf_q, kcIf_t, kcIf_f, eB1_q, kB1_q, eI2_q, kI2_q, eIsi_q, kIsi_q, kLst_q, eList_q, kList_q, kTpl_q, eTuple_q, kTuple_q, eCall_q, kCall_q, kCall2_q, eCallB_q, kCallB_q, kCl_q, allP_n, allP_c, eIx_q, kIx1_q, kIx2_q, oN_q, oS_q, koS_q, eSl_q, kSl1_q, kSl2_q, kSl3_q, cutT_p, cutT_l, sNx_q, sBk_q, sCt_q, sRetN_q, sSeq_q, kSeq_n, kSeq_r, kSeq_b, kSeq_c, sRet_q, kRet_q, sSet_q, kSet_q, sDrop_q, kDrop_q, gNm_q, gEnd_q, gAnd_q, gTp_q, kTp_q, partsT_p, partsT_t, kNx_q, sAsg_q, kAsg_q, sFor_q, kFor_q, loop_n, loop_c, kLp1_q, kLp2_n, kLp2_c, kLp2_b, kLp2_r, iL_q, kiL_q, iTp_q, kiTp_q, iSg_q, kiSg_q, iR1_q, kR1_q, iR2_q, kR2_q, iEn_q, kEn_q, iZp_q, kZp_q, kZp_t, sForV_q, kForV_q, kForV1_q, kForV2_n, kForV2_r, atL_q, kAtL_q, sApp_q, kApp_q, kApp1_q, kApp2_q, sPut_q, kPut_q, kPut1_q, kPut2_q, kPut3_q, kPut4_q, kPutEnd_q, asI_q, sAugIx_q, kAx_q, kAx0_q, kAx1_q, kAx2_q, kAx3_q, kAx4_q, kAx5_q, kAx6_q, kAx7_q, kAx8_q, sAug_q, kAug_q, kAug2_q, kAug3_q, comp_n, comp_c, kCp1_q, kCp2_t, kCp2_f, kCp3_q, kCp4_q, eComp_q, kComp_q, kLs_q, cYes_q, wipe_n, wipe_c, eM1_q, kM11_q, kM12_q, eSplit_q, kSp1_q, kSp2_q, eJoin_q, kJn1_q, kJn2_q, kJn3_q, kJn4_q, eCat_q, kCt0_q, kCt1_q, kCt2_q, kCt3_pl, kCt3_ll, kCt3_lp, kCt3_pp, itemsT_p, itemsT_t, itemsT_ll, isLT_p, isLT_l, eDn_q, eDix_q, kDx1_q, kDx2_q, kDx3_q, kDx4_q, eDget_q, kDg1_q, kDg2_q, kDg3_q, kDg4_q, kDg5_q, eDin_q, kDi1_q, kDi2_q, kDi3_q, kDi4_t, kDi4_f, sPutD_q, kPd1_q, kPd2_q, kPd3_q, kPd4_q, kPd5_q, atD_q, kAtD_q, dicT_p, dicT_o, keyT_i, keyT_s, toD_d, kV_d, sForM_q, kForM_q, loopT_n, loopT_c, kLt1_q, kLt2_n, kLt2_r, eM0_q, kM0_q, iR3_q, runF_q, kRun_r, kRun_n, cutT_s, gStarts, gFind, startE, T.toDs, T.toD, cleanT, tyD, tyOk, List.length_cons, List.length_nil, List.length_map, List.map_cons, List.map_nil, List.replicate, List.cons_append, List.nil_append, List.getElem?_cons_zero, List.getElem?_cons_succ, List.set_cons_zero, List.set_cons_succ, Nat.reduceAdd, Nat.reduceSub, Nat.reduceLT, Nat.reduceLeDiff, Nat.zero_add, gAdd_i, gAdd_g, gSub_i, gAddI_i, gMul_l, gMul_r, gDiv_i, gMod_i, gPow_i, gMulA_g, cLt_i, cLe_i, cGt_i, cGe_i, eqQ_i, neQ_i, eqQ_g, neQ_g, eqQ_ints, neQ_ints, eqQ_b, neQ_b, inQ_g, notInQ_g, gLen_g, gStr_i, gStr_s, gSum_p, gSum_l, gLen_p, gLen_l, toD_l, toDs_p, allP_map, ixT_lst, ixT_pl, ixT_pt, ixT_sg, signsD_g, atI_0, atI_1, atI_2, atI_3, atI_4, atI_5, atI_6, ofS, sg_len, ifLe, ifLt, rng_len, decide_true, decide_false, Bool.false_eq_true, Bool.not_true, Bool.not_false, Int.reduceLT, Int.reduceLE, Int.reduceEq, kit_ii, kit_ib, kit_ll, kit_bb, kit_bi, kit_ss, kit_tt, kit_tl, kit_lt, kit_ls, kit_li, kit_lb, kit_is, kit_si, kit_sb, kit_ti, kit_tb, kit_ts]
    · rw [List.filter_cons_of_pos (by simp [h]), List.map_cons, List.map_cons]
      simp (disch := omega) only [ih, h, ↓reduceIte, and_self, bindS, mapS, eV_q, kV_p, kV_l, kV_t, eM_q, kM_s, eB_q, kB_s, eC_q, eW_q, kW_p, aN_q, aC_q, kAC_q, kCons_q, aMv_q, kMv_s, kMv2_q, kMv3_s, eL_q, kL_q, eT_q, kT_q, kP_q, kBl_q, kT2_q, eFz_q, kFz_q, eOp_q, kOp1_q, kOp2_q, eCmp_q, kCm1_q, kCm2_q, eNeg_q, kNeg_q, eChain_q, kCh1_q, kCh2_q, kCh3_q, cT_q, kcT_q, cNot_q, kNot_q, cAnd_q, kcAnd_t, kcAnd_f, cOr_q, kcOr_t, kcOr_f, eIf_q, keIf_t, keIf_f, eAnd_q, keAnd_t, keAnd_f, eOr_q, keOr_t, keOr_f, eNot_q, keNot_q, sIf_q, kcIf_t, kcIf_f, eB1_q, kB1_q, eI2_q, kI2_q, eIsi_q, kIsi_q, kLst_q, eList_q, kList_q, kTpl_q, eTuple_q, kTuple_q, eCall_q, kCall_q, kCall2_q, eCallB_q, kCallB_q, kCl_q, allP_n, allP_c, eIx_q, kIx1_q, kIx2_q, oN_q, oS_q, koS_q, eSl_q, kSl1_q, kSl2_q, kSl3_q, cutT_p, cutT_l, sNx_q, sBk_q, sCt_q, sRetN_q, sSeq_q, kSeq_n, kSeq_r, kSeq_b, kSeq_c, sRet_q, kRet_q, sSet_q, kSet_q, sDrop_q, kDrop_q, gNm_q, gEnd_q, gAnd_q, gTp_q, kTp_q, partsT_p, partsT_t, kNx_q, sAsg_q, kAsg_q, sFor_q, kFor_q, loop_n, loop_c, kLp1_q, kLp2_n, kLp2_c, kLp2_b, kLp2_r, iL_q, kiL_q, iTp_q, kiTp_q, iSg_q, kiSg_q, iR1_q, kR1_q, iR2_q, kR2_q, iEn_q, kEn_q, iZp_q, kZp_q, kZp_t, sForV_q, kForV_q, kForV1_q, kForV2_n, kForV2_r, atL_q, kAtL_q, sApp_q, kApp_q, kApp1_q, kApp2_q, sPut_q, kPut_q, kPut1_q, kPut2_q, kPut3_q, kPut4_q, kPutEnd_q, asI_q, sAugIx_q, kAx_q, kAx0_q, kAx1_q, kAx2_q, kAx3_q, kAx4_q, kAx5_q, kAx6_q, kAx7_q, kAx8_q, sAug_q, kAug_q, kAug2_q, kAug3_q, comp_n, comp_c, kCp1_q, kCp2_t, kCp2_f, kCp3_q, kCp4_q, eComp_q, kComp_q, kLs_q, cYes_q, wipe_n, wipe_c, eM1_q, kM11_q, kM12_q, eSplit_q, kSp1_q, kSp2_q, eJoin_q, kJn1_q, kJn2_q, kJn3_q, kJn4_q, eCat_q, kCt0_q, kCt1_q, kCt2_q, kCt3_pl, kCt3_ll, kCt3_lp, kCt3_pp, itemsT_p, itemsT_t, itemsT_ll, isLT_p, isLT_l, eDn_q, eDix_q, kDx1_q, kDx2_q, kDx3_q, kDx4_q, eDget_q, kDg1_q, kDg2_q, kDg3_q, kDg4_q, kDg5_q, eDin_q, kDi1_q, kDi2_q, kDi3_q, kDi4_t, kDi4_f, sPutD_q, kPd1_q, kPd2_q, kPd3_q, kPd4_q, kPd5_q, atD_q, kAtD_q, dicT_p, dicT_o, keyT_i, keyT_s, toD_d, kV_d, sForM_q, kForM_q, loopT_n, loopT_c, kLt1_q, kLt2_n, kLt2_r, eM0_q, kM0_q, iR3_q, runF_q, kRun_r, kRun_n, cutT_s, gStarts, gFind, startE, T.toDs, T.toD, cleanT, tyD, tyOk, List.length_cons, List.length_nil, List.length_map, List.map_cons, List.map_nil, List.replicate, List.cons_append, List.nil_append, List.getElem?_cons_zero, List.getElem?_cons_succ, List.set_cons_zero, List.set_cons_succ, Nat.reduceAdd, Nat.reduceSub, Nat.reduceLT, Nat.reduceLeDiff, Nat.zero_add, gAdd_i, gAdd_g, gSub_i, gAddI_i, gMul_l, gMul_r, gDiv_i, gMod_i, gPow_i, gMulA_g, cLt_i, cLe_i, cGt_i, cGe_i, eqQ_i, neQ_i, eqQ_g, neQ_g, eqQ_ints, neQ_ints, eqQ_b, neQ_b, inQ_g, notInQ_g, gLen_g, gStr_i, gStr_s, gSum_p, gSum_l, gLen_p, gLen_l, toD_l, toDs_p, allP_map, ixT_lst, ixT_pl, ixT_pt, ixT_sg, signsD_g, atI_0, atI_1, atI_2, atI_3, atI_4, atI_5, atI_6, ofS, sg_len, ifLe, ifLt, rng_len, decide_true, decide_false, Bool.false_eq_true, Bool.not_true, Bool.not_false, Int.reduceLT, Int.reduceLE, Int.reduceEq, kit_ii, kit_ib, kit_ll, kit_bb, kit_bi, kit_ss, kit_tt, kit_tl, kit_lt, kit_ls, kit_li, kit_lb, kit_is, kit_si, kit_sb, kit_ti, kit_tb, kit_ts]
/-! ### alike -/
mutual
def aOk : Nat → D → Bool
  | _, .non => true
  | _, .bl _ => true
  | _, .int _ => true
  | _, .str _ => true
  | 0, .lst _ => false
  | n + 1, .lst ds => decide (ds.length ≤ 1000000) && aOks n ds
  | 0, .tup _ => false
  | n + 1, .tup ds => decide (ds.length ≤ 1000000) && aOks n ds
  | _, .dic _ => false
  | _, .dit _ => false
  | _, .obj _ _ => false
  | _, .al _ => false
def aOks : Nat → List D → Bool
  | _, [] => true
  | n, d :: ds => aOk n d && aOks n ds
end
theorem aOks_all {n : Nat} : ∀ {ds : List D}, aOks n ds = true ↔ ∀ d ∈ ds, aOk n d = true
  | [] => by unfold aOks; simp
  | d :: ds => by unfold aOks; simp [aOks_all (ds := ds)]
theorem alike_loop {φ : List D → Option T} {a0 a1 : T} {ds : List D} (h0 : ∀ k : Nat, ∀ d, ds[k]? = some d → ixT a0 k = some (.p d)) (h1 : ∀ k : Nat, ∀ d, ds[k]? = some d → ixT a1 k = some (.p d)) (hφ : ∀ d ∈ ds, φ [d, d] = some (.p (.bl true))) :
    ∀ (n lo : Nat) (a2 : Option T), lo + n ≤ ds.length → ∃ b2, loopD (gNm 2) (B_law_alike_1 φ) (rngD lo n) [some a0, some a1, a2] = some (.nx, [some a0, some a1, b2])
  | 0, lo, a2, _ => ⟨a2, rfl⟩
  | n + 1, lo, a2, h => by
    obtain ⟨b2, ih⟩ := alike_loop h0 h1 hφ n (lo + 1) (some (.p (.int lo))) (by omega)
    refine ⟨b2, ?_⟩
    have hlt : lo < ds.length := by omega
    have e := List.getElem?_eq_getElem hlt
    have x0 := h0 lo _ e
    have x1 := h1 lo _ e
    have hp := hφ _ (List.getElem_mem hlt)
    have hb : B_law_alike_1 φ [some a0, some a1, some (.p (.int lo))] = some (.nx, [some a0, some a1, some (.p (.int lo))]) := by
      unfold B_law_alike_1
      simp (disch := omega) only [x0, x1, hp, ↓reduceIte, and_self, bindS, mapS, eV_q, kV_p, kV_l, kV_t, eM_q, kM_s, eB_q, kB_s, eC_q, eW_q, kW_p, aN_q, aC_q, kAC_q, kCons_q, aMv_q, kMv_s, kMv2_q, kMv3_s, eL_q, kL_q, eT_q, kT_q, kP_q, kBl_q, kT2_q, eFz_q, kFz_q, eOp_q, kOp1_q, kOp2_q, eCmp_q, kCm1_q, kCm2_q, eNeg_q, kNeg_q, eChain_q, kCh1_q, kCh2_q, kCh3_q, cT_q, kcT_q, cNot_q, kNot_q, cAnd_q, kcAnd_t, kcAnd_f, cOr_q, kcOr_t, kcOr_f, eIf_q, keIf_t, keIf_f, eAnd_q, keAnd_t, keAnd_f, eOr_q, keOr_t, keOr_f, eNot_q, keNot_q, sIf_q, kcIf_t, kcIf_f, eB1_q, kB1_q, eI2_q, kI2_q, eIsi_q, kIsi_q, kLst_q, eList_q, kList_q, kTpl_q, eTuple_q, kTuple_q, eCall_q, kCall_q, kCall2_q, eCallB_q, kCallB_q, kCl_q, allP_n, allP_c, eIx_q, kIx1_q, kIx2_q, oN_q, oS_q, koS_q, eSl_q, kSl1_q, kSl2_q, kSl3_q, cutT_p, cutT_l, sNx_q, sBk_q, sCt_q, sRetN_q, sSeq_q, kSeq_n, kSeq_r, kSeq_b, kSeq_c, sRet_q, kRet_q, sSet_q, kSet_q, sDrop_q, kDrop_q, gNm_q, gEnd_q, gAnd_q, gTp_q, kTp_q, partsT_p, partsT_t, kNx_q, sAsg_q, kAsg_q, sFor_q, kFor_q, loop_n, loop_c, kLp1_q, kLp2_n, kLp2_c, kLp2_b, kLp2_r, iL_q, kiL_q, iTp_q, kiTp_q, iSg_q, kiSg_q, iR1_q, kR1_q, iR2_q, kR2_q, iEn_q, kEn_q, iZp_q, kZp_q, kZp_t, sForV_q, kForV_q, kForV1_q, kForV2_n, kForV2_r, atL_q, kAtL_q, sApp_q, kApp_q, kApp1_q, kApp2_q, sPut_q, kPut_q, kPut1_q, kPut2_q, kPut3_q, kPut4_q, kPutEnd_q, asI_q, sAugIx_q, kAx_q, kAx0_q, kAx1_q, kAx2_q, kAx3_q, kAx4_q, kAx5_q, kAx6_q, kAx7_q, kAx8_q, sAug_q, kAug_q, kAug2_q, kAug3_q, comp_n, comp_c, kCp1_q, kCp2_t, kCp2_f, kCp3_q, kCp4_q, eComp_q, kComp_q, kLs_q, cYes_q, wipe_n, wipe_c, eM1_q, kM11_q, kM12_q, eSplit_q, kSp1_q, kSp2_q, eJoin_q, kJn1_q, kJn2_q, kJn3_q, kJn4_q, eCat_q, kCt0_q, kCt1_q, kCt2_q, kCt3_pl, kCt3_ll, kCt3_lp, kCt3_pp, itemsT_p, itemsT_t, itemsT_ll, isLT_p, isLT_l, eDn_q, eDix_q, kDx1_q, kDx2_q, kDx3_q, kDx4_q, eDget_q, kDg1_q, kDg2_q, kDg3_q, kDg4_q, kDg5_q, eDin_q, kDi1_q, kDi2_q, kDi3_q, kDi4_t, kDi4_f, sPutD_q, kPd1_q, kPd2_q, kPd3_q, kPd4_q, kPd5_q, atD_q, kAtD_q, dicT_p, dicT_o, keyT_i, keyT_s, toD_d, kV_d, sForM_q, kForM_q, loopT_n, loopT_c, kLt1_q, kLt2_n, kLt2_r, eM0_q, kM0_q, iR3_q, runF_q, kRun_r, kRun_n, cutT_s, gStarts, gFind, startE, T.toDs, T.toD, cleanT, tyD, tyOk, List.length_cons, List.length_nil, List.length_map, List.map_cons, List.map_nil, List.replicate, List.cons_append, List.nil_append, List.getElem?_cons_zero, List.getElem?_cons_succ, List.set_cons_zero, List.set_cons_succ, Nat.reduceAdd, Nat.reduceSub, Nat.reduceLT, Nat.reduceLeDiff, Nat.zero_add, gAdd_i, gAdd_g, gSub_i, gAddI_i, gMul_l, gMul_r, gDiv_i, gMod_i, gPow_i, gMulA_g, cLt_i, cLe_i, cGt_i, cGe_i, eqQ_i, neQ_i, eqQ_g, neQ_g, eqQ_ints, neQ_ints, eqQ_b, neQ_b, inQ_g, notInQ_g, gLen_g, gStr_i, gStr_s, gSum_p, gSum_l, gLen_p, gLen_l, toD_l, toDs_p, allP_map, ixT_lst, ixT_pl, ixT_pt, ixT_sg, signsD_g, atI_0, atI_1, atI_2, atI_3, atI_4, atI_5, atI_6, ofS, sg_len, ifLe, ifLt, rng_len, decide_true, decide_false, Bool.false_eq_true, Bool.not_true, Bool.not_false, Int.reduceLT, Int.reduceLE, Int.reduceEq, kit_ii, kit_ib, kit_ll, kit_bb, kit_bi, kit_ss, kit_tt, kit_tl, kit_lt, kit_ls, kit_li, kit_lb, kit_is, kit_si, kit_sb, kit_ti, kit_tb, kit_ts]
    rw [rngD_cons, loop_c]
    show (some _).bind _ = _
    rw [bindS, kLp1_q]
    show (B_law_alike_1 φ [some a0, some a1, some (.p (.int lo))]).bind _ = _
    rw [hb, bindS, kLp2_n, show ((lo : Nat) : Int) + 1 = ((lo + 1 : Nat) : Int) by omega]
    exact ih
theorem kitnb : kitB "NoneType" "bool" = some false := by decide +kernel
theorem kitsb2 : kitB "str" "bool" = some false := by decide +kernel
theorem alike_refl : ∀ (n : Nat) (d : D), aOk n d = true → phi_law_alike (n + 1) [d, d] = some (.p (.bl true))
  | n, .non, _ => rfl
  | n, .bl b, _ => by
    have h1 : isN (.bl b) .non = some false := rfl
    show runF 3 2 (F_law_alike (phi_law_alike n)) _ = _
    unfold F_law_alike
    simp (disch := omega) only [h1, ↓reduceIte, and_self, bindS, mapS, eV_q, kV_p, kV_l, kV_t, eM_q, kM_s, eB_q, kB_s, eC_q, eW_q, kW_p, aN_q, aC_q, kAC_q, kCons_q, aMv_q, kMv_s, kMv2_q, kMv3_s, eL_q, kL_q, eT_q, kT_q, kP_q, kBl_q, kT2_q, eFz_q, kFz_q, eOp_q, kOp1_q, kOp2_q, eCmp_q, kCm1_q, kCm2_q, eNeg_q, kNeg_q, eChain_q, kCh1_q, kCh2_q, kCh3_q, cT_q, kcT_q, cNot_q, kNot_q, cAnd_q, kcAnd_t, kcAnd_f, cOr_q, kcOr_t, kcOr_f, eIf_q, keIf_t, keIf_f, eAnd_q, keAnd_t, keAnd_f, eOr_q, keOr_t, keOr_f, eNot_q, keNot_q, sIf_q, kcIf_t, kcIf_f, eB1_q, kB1_q, eI2_q, kI2_q, eIsi_q, kIsi_q, kLst_q, eList_q, kList_q, kTpl_q, eTuple_q, kTuple_q, eCall_q, kCall_q, kCall2_q, eCallB_q, kCallB_q, kCl_q, allP_n, allP_c, eIx_q, kIx1_q, kIx2_q, oN_q, oS_q, koS_q, eSl_q, kSl1_q, kSl2_q, kSl3_q, cutT_p, cutT_l, sNx_q, sBk_q, sCt_q, sRetN_q, sSeq_q, kSeq_n, kSeq_r, kSeq_b, kSeq_c, sRet_q, kRet_q, sSet_q, kSet_q, sDrop_q, kDrop_q, gNm_q, gEnd_q, gAnd_q, gTp_q, kTp_q, partsT_p, partsT_t, kNx_q, sAsg_q, kAsg_q, sFor_q, kFor_q, loop_n, loop_c, kLp1_q, kLp2_n, kLp2_c, kLp2_b, kLp2_r, iL_q, kiL_q, iTp_q, kiTp_q, iSg_q, kiSg_q, iR1_q, kR1_q, iR2_q, kR2_q, iEn_q, kEn_q, iZp_q, kZp_q, kZp_t, sForV_q, kForV_q, kForV1_q, kForV2_n, kForV2_r, atL_q, kAtL_q, sApp_q, kApp_q, kApp1_q, kApp2_q, sPut_q, kPut_q, kPut1_q, kPut2_q, kPut3_q, kPut4_q, kPutEnd_q, asI_q, sAugIx_q, kAx_q, kAx0_q, kAx1_q, kAx2_q, kAx3_q, kAx4_q, kAx5_q, kAx6_q, kAx7_q, kAx8_q, sAug_q, kAug_q, kAug2_q, kAug3_q, comp_n, comp_c, kCp1_q, kCp2_t, kCp2_f, kCp3_q, kCp4_q, eComp_q, kComp_q, kLs_q, cYes_q, wipe_n, wipe_c, eM1_q, kM11_q, kM12_q, eSplit_q, kSp1_q, kSp2_q, eJoin_q, kJn1_q, kJn2_q, kJn3_q, kJn4_q, eCat_q, kCt0_q, kCt1_q, kCt2_q, kCt3_pl, kCt3_ll, kCt3_lp, kCt3_pp, itemsT_p, itemsT_t, itemsT_ll, isLT_p, isLT_l, eDn_q, eDix_q, kDx1_q, kDx2_q, kDx3_q, kDx4_q, eDget_q, kDg1_q, kDg2_q, kDg3_q, kDg4_q, kDg5_q, eDin_q, kDi1_q, kDi2_q, kDi3_q, kDi4_t, kDi4_f, sPutD_q, kPd1_q, kPd2_q, kPd3_q, kPd4_q, kPd5_q, atD_q, kAtD_q, dicT_p, dicT_o, keyT_i, keyT_s, toD_d, kV_d, sForM_q, kForM_q, loopT_n, loopT_c, kLt1_q, kLt2_n, kLt2_r, eM0_q, kM0_q, iR3_q, runF_q, kRun_r, kRun_n, cutT_s, gStarts, gFind, startE, T.toDs, T.toD, cleanT, tyD, tyOk, List.length_cons, List.length_nil, List.length_map, List.map_cons, List.map_nil, List.replicate, List.cons_append, List.nil_append, List.getElem?_cons_zero, List.getElem?_cons_succ, List.set_cons_zero, List.set_cons_succ, Nat.reduceAdd, Nat.reduceSub, Nat.reduceLT, Nat.reduceLeDiff, Nat.zero_add, gAdd_i, gAdd_g, gSub_i, gAddI_i, gMul_l, gMul_r, gDiv_i, gMod_i, gPow_i, gMulA_g, cLt_i, cLe_i, cGt_i, cGe_i, eqQ_i, neQ_i, eqQ_g, neQ_g, eqQ_ints, neQ_ints, eqQ_b, neQ_b, inQ_g, notInQ_g, gLen_g, gStr_i, gStr_s, gSum_p, gSum_l, gLen_p, gLen_l, toD_l, toDs_p, allP_map, ixT_lst, ixT_pl, ixT_pt, ixT_sg, signsD_g, atI_0, atI_1, atI_2, atI_3, atI_4, atI_5, atI_6, ofS, sg_len, ifLe, ifLt, rng_len, decide_true, decide_false, Bool.false_eq_true, Bool.not_true, Bool.not_false, Int.reduceLT, Int.reduceLE, Int.reduceEq, kit_ii, kit_ib, kit_ll, kit_bb, kit_bi, kit_ss, kit_tt, kit_tl, kit_lt, kit_ls, kit_li, kit_lb, kit_is, kit_si, kit_sb, kit_ti, kit_tb, kit_ts]
  | n, .int b, _ => by
    have h1 : isN (.int b) .non = some false := rfl
    show runF 3 2 (F_law_alike (phi_law_alike n)) _ = _
    unfold F_law_alike
    simp (disch := omega) only [h1, ↓reduceIte, and_self, bindS, mapS, eV_q, kV_p, kV_l, kV_t, eM_q, kM_s, eB_q, kB_s, eC_q, eW_q, kW_p, aN_q, aC_q, kAC_q, kCons_q, aMv_q, kMv_s, kMv2_q, kMv3_s, eL_q, kL_q, eT_q, kT_q, kP_q, kBl_q, kT2_q, eFz_q, kFz_q, eOp_q, kOp1_q, kOp2_q, eCmp_q, kCm1_q, kCm2_q, eNeg_q, kNeg_q, eChain_q, kCh1_q, kCh2_q, kCh3_q, cT_q, kcT_q, cNot_q, kNot_q, cAnd_q, kcAnd_t, kcAnd_f, cOr_q, kcOr_t, kcOr_f, eIf_q, keIf_t, keIf_f, eAnd_q, keAnd_t, keAnd_f, eOr_q, keOr_t, keOr_f, eNot_q, keNot_q, sIf_q, kcIf_t, kcIf_f, eB1_q, kB1_q, eI2_q, kI2_q, eIsi_q, kIsi_q, kLst_q, eList_q, kList_q, kTpl_q, eTuple_q, kTuple_q, eCall_q, kCall_q, kCall2_q, eCallB_q, kCallB_q, kCl_q, allP_n, allP_c, eIx_q, kIx1_q, kIx2_q, oN_q, oS_q, koS_q, eSl_q, kSl1_q, kSl2_q, kSl3_q, cutT_p, cutT_l, sNx_q, sBk_q, sCt_q, sRetN_q, sSeq_q, kSeq_n, kSeq_r, kSeq_b, kSeq_c, sRet_q, kRet_q, sSet_q, kSet_q, sDrop_q, kDrop_q, gNm_q, gEnd_q, gAnd_q, gTp_q, kTp_q, partsT_p, partsT_t, kNx_q, sAsg_q, kAsg_q, sFor_q, kFor_q, loop_n, loop_c, kLp1_q, kLp2_n, kLp2_c, kLp2_b, kLp2_r, iL_q, kiL_q, iTp_q, kiTp_q, iSg_q, kiSg_q, iR1_q, kR1_q, iR2_q, kR2_q, iEn_q, kEn_q, iZp_q, kZp_q, kZp_t, sForV_q, kForV_q, kForV1_q, kForV2_n, kForV2_r, atL_q, kAtL_q, sApp_q, kApp_q, kApp1_q, kApp2_q, sPut_q, kPut_q, kPut1_q, kPut2_q, kPut3_q, kPut4_q, kPutEnd_q, asI_q, sAugIx_q, kAx_q, kAx0_q, kAx1_q, kAx2_q, kAx3_q, kAx4_q, kAx5_q, kAx6_q, kAx7_q, kAx8_q, sAug_q, kAug_q, kAug2_q, kAug3_q, comp_n, comp_c, kCp1_q, kCp2_t, kCp2_f, kCp3_q, kCp4_q, eComp_q, kComp_q, kLs_q, cYes_q, wipe_n, wipe_c, eM1_q, kM11_q, kM12_q, eSplit_q, kSp1_q, kSp2_q, eJoin_q, kJn1_q, kJn2_q, kJn3_q, kJn4_q, eCat_q, kCt0_q, kCt1_q, kCt2_q, kCt3_pl, kCt3_ll, kCt3_lp, kCt3_pp, itemsT_p, itemsT_t, itemsT_ll, isLT_p, isLT_l, eDn_q, eDix_q, kDx1_q, kDx2_q, kDx3_q, kDx4_q, eDget_q, kDg1_q, kDg2_q, kDg3_q, kDg4_q, kDg5_q, eDin_q, kDi1_q, kDi2_q, kDi3_q, kDi4_t, kDi4_f, sPutD_q, kPd1_q, kPd2_q, kPd3_q, kPd4_q, kPd5_q, atD_q, kAtD_q, dicT_p, dicT_o, keyT_i, keyT_s, toD_d, kV_d, sForM_q, kForM_q, loopT_n, loopT_c, kLt1_q, kLt2_n, kLt2_r, eM0_q, kM0_q, iR3_q, runF_q, kRun_r, kRun_n, cutT_s, gStarts, gFind, startE, T.toDs, T.toD, cleanT, tyD, tyOk, List.length_cons, List.length_nil, List.length_map, List.map_cons, List.map_nil, List.replicate, List.cons_append, List.nil_append, List.getElem?_cons_zero, List.getElem?_cons_succ, List.set_cons_zero, List.set_cons_succ, Nat.reduceAdd, Nat.reduceSub, Nat.reduceLT, Nat.reduceLeDiff, Nat.zero_add, gAdd_i, gAdd_g, gSub_i, gAddI_i, gMul_l, gMul_r, gDiv_i, gMod_i, gPow_i, gMulA_g, cLt_i, cLe_i, cGt_i, cGe_i, eqQ_i, neQ_i, eqQ_g, neQ_g, eqQ_ints, neQ_ints, eqQ_b, neQ_b, inQ_g, notInQ_g, gLen_g, gStr_i, gStr_s, gSum_p, gSum_l, gLen_p, gLen_l, toD_l, toDs_p, allP_map, ixT_lst, ixT_pl, ixT_pt, ixT_sg, signsD_g, atI_0, atI_1, atI_2, atI_3, atI_4, atI_5, atI_6, ofS, sg_len, ifLe, ifLt, rng_len, decide_true, decide_false, Bool.false_eq_true, Bool.not_true, Bool.not_false, Int.reduceLT, Int.reduceLE, Int.reduceEq, kit_ii, kit_ib, kit_ll, kit_bb, kit_bi, kit_ss, kit_tt, kit_tl, kit_lt, kit_ls, kit_li, kit_lb, kit_is, kit_si, kit_sb, kit_ti, kit_tb, kit_ts]
  | n, .str b, _ => by
    have h1 : isN (.str b) .non = some false := rfl
    show runF 3 2 (F_law_alike (phi_law_alike n)) _ = _
    unfold F_law_alike
    simp (disch := omega) only [h1, eqQ_s, ↓reduceIte, and_self, bindS, mapS, eV_q, kV_p, kV_l, kV_t, eM_q, kM_s, eB_q, kB_s, eC_q, eW_q, kW_p, aN_q, aC_q, kAC_q, kCons_q, aMv_q, kMv_s, kMv2_q, kMv3_s, eL_q, kL_q, eT_q, kT_q, kP_q, kBl_q, kT2_q, eFz_q, kFz_q, eOp_q, kOp1_q, kOp2_q, eCmp_q, kCm1_q, kCm2_q, eNeg_q, kNeg_q, eChain_q, kCh1_q, kCh2_q, kCh3_q, cT_q, kcT_q, cNot_q, kNot_q, cAnd_q, kcAnd_t, kcAnd_f, cOr_q, kcOr_t, kcOr_f, eIf_q, keIf_t, keIf_f, eAnd_q, keAnd_t, keAnd_f, eOr_q, keOr_t, keOr_f, eNot_q, keNot_q, sIf_q, kcIf_t, kcIf_f, eB1_q, kB1_q, eI2_q, kI2_q, eIsi_q, kIsi_q, kLst_q, eList_q, kList_q, kTpl_q, eTuple_q, kTuple_q, eCall_q, kCall_q, kCall2_q, eCallB_q, kCallB_q, kCl_q, allP_n, allP_c, eIx_q, kIx1_q, kIx2_q, oN_q, oS_q, koS_q, eSl_q, kSl1_q, kSl2_q, kSl3_q, cutT_p, cutT_l, sNx_q, sBk_q, sCt_q, sRetN_q, sSeq_q, kSeq_n, kSeq_r, kSeq_b, kSeq_c, sRet_q, kRet_q, sSet_q, kSet_q, sDrop_q, kDrop_q, gNm_q, gEnd_q, gAnd_q, gTp_q, kTp_q, partsT_p, partsT_t, kNx_q, sAsg_q, kAsg_q, sFor_q, kFor_q, loop_n, loop_c, kLp1_q, kLp2_n, kLp2_c, kLp2_b, kLp2_r, iL_q, kiL_q, iTp_q, kiTp_q, iSg_q, kiSg_q, iR1_q, kR1_q, iR2_q, kR2_q, iEn_q, kEn_q, iZp_q, kZp_q, kZp_t, sForV_q, kForV_q, kForV1_q, kForV2_n, kForV2_r, atL_q, kAtL_q, sApp_q, kApp_q, kApp1_q, kApp2_q, sPut_q, kPut_q, kPut1_q, kPut2_q, kPut3_q, kPut4_q, kPutEnd_q, asI_q, sAugIx_q, kAx_q, kAx0_q, kAx1_q, kAx2_q, kAx3_q, kAx4_q, kAx5_q, kAx6_q, kAx7_q, kAx8_q, sAug_q, kAug_q, kAug2_q, kAug3_q, comp_n, comp_c, kCp1_q, kCp2_t, kCp2_f, kCp3_q, kCp4_q, eComp_q, kComp_q, kLs_q, cYes_q, wipe_n, wipe_c, eM1_q, kM11_q, kM12_q, eSplit_q, kSp1_q, kSp2_q, eJoin_q, kJn1_q, kJn2_q, kJn3_q, kJn4_q, eCat_q, kCt0_q, kCt1_q, kCt2_q, kCt3_pl, kCt3_ll, kCt3_lp, kCt3_pp, itemsT_p, itemsT_t, itemsT_ll, isLT_p, isLT_l, eDn_q, eDix_q, kDx1_q, kDx2_q, kDx3_q, kDx4_q, eDget_q, kDg1_q, kDg2_q, kDg3_q, kDg4_q, kDg5_q, eDin_q, kDi1_q, kDi2_q, kDi3_q, kDi4_t, kDi4_f, sPutD_q, kPd1_q, kPd2_q, kPd3_q, kPd4_q, kPd5_q, atD_q, kAtD_q, dicT_p, dicT_o, keyT_i, keyT_s, toD_d, kV_d, sForM_q, kForM_q, loopT_n, loopT_c, kLt1_q, kLt2_n, kLt2_r, eM0_q, kM0_q, iR3_q, runF_q, kRun_r, kRun_n, cutT_s, gStarts, gFind, startE, T.toDs, T.toD, cleanT, tyD, tyOk, List.length_cons, List.length_nil, List.length_map, List.map_cons, List.map_nil, List.replicate, List.cons_append, List.nil_append, List.getElem?_cons_zero, List.getElem?_cons_succ, List.set_cons_zero, List.set_cons_succ, Nat.reduceAdd, Nat.reduceSub, Nat.reduceLT, Nat.reduceLeDiff, Nat.zero_add, gAdd_i, gAdd_g, gSub_i, gAddI_i, gMul_l, gMul_r, gDiv_i, gMod_i, gPow_i, gMulA_g, cLt_i, cLe_i, cGt_i, cGe_i, eqQ_i, neQ_i, eqQ_g, neQ_g, eqQ_ints, neQ_ints, eqQ_b, neQ_b, inQ_g, notInQ_g, gLen_g, gStr_i, gStr_s, gSum_p, gSum_l, gLen_p, gLen_l, toD_l, toDs_p, allP_map, ixT_lst, ixT_pl, ixT_pt, ixT_sg, signsD_g, atI_0, atI_1, atI_2, atI_3, atI_4, atI_5, atI_6, ofS, sg_len, ifLe, ifLt, rng_len, decide_true, decide_false, Bool.false_eq_true, Bool.not_true, Bool.not_false, Int.reduceLT, Int.reduceLE, Int.reduceEq, kit_ii, kit_ib, kit_ll, kit_bb, kit_bi, kit_ss, kit_tt, kit_tl, kit_lt, kit_ls, kit_li, kit_lb, kit_is, kit_si, kit_sb, kit_ti, kit_tb, kit_ts]
  | 0, .lst _, h => by unfold aOk at h; cases h
  | n + 1, .lst ds, h => by
    unfold aOk at h
    rw [Bool.and_eq_true, decide_eq_true_eq] at h
    obtain ⟨hl, ha⟩ := h
    have h1 : isN (.lst ds) .non = some false := rfl
    have hi : ∀ k : Nat, ∀ d, ds[k]? = some d → ixT (.p (.lst ds)) k = some (.p d) := fun k d hd => by rw [ixT_pl, atI_nat hd]; rfl
    obtain ⟨b2, hb⟩ := alike_loop hi hi (fun d hd => alike_refl n d (aOks_all.mp ha d hd)) ds.length 0 none (by omega)
    rw [show ((0 : Nat) : Int) = 0 from rfl] at hb
    have e : ((ds.length : Nat) : Int).toNat = ds.length := by omega
    show runF 3 2 (F_law_alike (phi_law_alike (n + 1))) _ = _
    unfold F_law_alike
    simp (disch := omega) only [h1, hb, e, ↓reduceIte, and_self, bindS, mapS, eV_q, kV_p, kV_l, kV_t, eM_q, kM_s, eB_q, kB_s, eC_q, eW_q, kW_p, aN_q, aC_q, kAC_q, kCons_q, aMv_q, kMv_s, kMv2_q, kMv3_s, eL_q, kL_q, eT_q, kT_q, kP_q, kBl_q, kT2_q, eFz_q, kFz_q, eOp_q, kOp1_q, kOp2_q, eCmp_q, kCm1_q, kCm2_q, eNeg_q, kNeg_q, eChain_q, kCh1_q, kCh2_q, kCh3_q, cT_q, kcT_q, cNot_q, kNot_q, cAnd_q, kcAnd_t, kcAnd_f, cOr_q, kcOr_t, kcOr_f, eIf_q, keIf_t, keIf_f, eAnd_q, keAnd_t, keAnd_f, eOr_q, keOr_t, keOr_f, eNot_q, keNot_q, sIf_q, kcIf_t, kcIf_f, eB1_q, kB1_q, eI2_q, kI2_q, eIsi_q, kIsi_q, kLst_q, eList_q, kList_q, kTpl_q, eTuple_q, kTuple_q, eCall_q, kCall_q, kCall2_q, eCallB_q, kCallB_q, kCl_q, allP_n, allP_c, eIx_q, kIx1_q, kIx2_q, oN_q, oS_q, koS_q, eSl_q, kSl1_q, kSl2_q, kSl3_q, cutT_p, cutT_l, sNx_q, sBk_q, sCt_q, sRetN_q, sSeq_q, kSeq_n, kSeq_r, kSeq_b, kSeq_c, sRet_q, kRet_q, sSet_q, kSet_q, sDrop_q, kDrop_q, gNm_q, gEnd_q, gAnd_q, gTp_q, kTp_q, partsT_p, partsT_t, kNx_q, sAsg_q, kAsg_q, sFor_q, kFor_q, loop_n, loop_c, kLp1_q, kLp2_n, kLp2_c, kLp2_b, kLp2_r, iL_q, kiL_q, iTp_q, kiTp_q, iSg_q, kiSg_q, iR1_q, kR1_q, iR2_q, kR2_q, iEn_q, kEn_q, iZp_q, kZp_q, kZp_t, sForV_q, kForV_q, kForV1_q, kForV2_n, kForV2_r, atL_q, kAtL_q, sApp_q, kApp_q, kApp1_q, kApp2_q, sPut_q, kPut_q, kPut1_q, kPut2_q, kPut3_q, kPut4_q, kPutEnd_q, asI_q, sAugIx_q, kAx_q, kAx0_q, kAx1_q, kAx2_q, kAx3_q, kAx4_q, kAx5_q, kAx6_q, kAx7_q, kAx8_q, sAug_q, kAug_q, kAug2_q, kAug3_q, comp_n, comp_c, kCp1_q, kCp2_t, kCp2_f, kCp3_q, kCp4_q, eComp_q, kComp_q, kLs_q, cYes_q, wipe_n, wipe_c, eM1_q, kM11_q, kM12_q, eSplit_q, kSp1_q, kSp2_q, eJoin_q, kJn1_q, kJn2_q, kJn3_q, kJn4_q, eCat_q, kCt0_q, kCt1_q, kCt2_q, kCt3_pl, kCt3_ll, kCt3_lp, kCt3_pp, itemsT_p, itemsT_t, itemsT_ll, isLT_p, isLT_l, eDn_q, eDix_q, kDx1_q, kDx2_q, kDx3_q, kDx4_q, eDget_q, kDg1_q, kDg2_q, kDg3_q, kDg4_q, kDg5_q, eDin_q, kDi1_q, kDi2_q, kDi3_q, kDi4_t, kDi4_f, sPutD_q, kPd1_q, kPd2_q, kPd3_q, kPd4_q, kPd5_q, atD_q, kAtD_q, dicT_p, dicT_o, keyT_i, keyT_s, toD_d, kV_d, sForM_q, kForM_q, loopT_n, loopT_c, kLt1_q, kLt2_n, kLt2_r, eM0_q, kM0_q, iR3_q, runF_q, kRun_r, kRun_n, cutT_s, gStarts, gFind, startE, T.toDs, T.toD, cleanT, tyD, tyOk, List.length_cons, List.length_nil, List.length_map, List.map_cons, List.map_nil, List.replicate, List.cons_append, List.nil_append, List.getElem?_cons_zero, List.getElem?_cons_succ, List.set_cons_zero, List.set_cons_succ, Nat.reduceAdd, Nat.reduceSub, Nat.reduceLT, Nat.reduceLeDiff, Nat.zero_add, gAdd_i, gAdd_g, gSub_i, gAddI_i, gMul_l, gMul_r, gDiv_i, gMod_i, gPow_i, gMulA_g, cLt_i, cLe_i, cGt_i, cGe_i, eqQ_i, neQ_i, eqQ_g, neQ_g, eqQ_ints, neQ_ints, eqQ_b, neQ_b, inQ_g, notInQ_g, gLen_g, gStr_i, gStr_s, gSum_p, gSum_l, gLen_p, gLen_l, toD_l, toDs_p, allP_map, ixT_lst, ixT_pl, ixT_pt, ixT_sg, signsD_g, atI_0, atI_1, atI_2, atI_3, atI_4, atI_5, atI_6, ofS, sg_len, ifLe, ifLt, rng_len, decide_true, decide_false, Bool.false_eq_true, Bool.not_true, Bool.not_false, Int.reduceLT, Int.reduceLE, Int.reduceEq, kit_ii, kit_ib, kit_ll, kit_bb, kit_bi, kit_ss, kit_tt, kit_tl, kit_lt, kit_ls, kit_li, kit_lb, kit_is, kit_si, kit_sb, kit_ti, kit_tb, kit_ts]
  | 0, .tup _, h => by unfold aOk at h; cases h
  | n + 1, .tup ds, h => by
    unfold aOk at h
    rw [Bool.and_eq_true, decide_eq_true_eq] at h
    obtain ⟨hl, ha⟩ := h
    have h1 : isN (.tup ds) .non = some false := rfl
    have hi : ∀ k : Nat, ∀ d, ds[k]? = some d → ixT (.p (.tup ds)) k = some (.p d) := fun k d hd => by rw [ixT_pt, atI_nat hd]; rfl
    obtain ⟨b2, hb⟩ := alike_loop hi hi (fun d hd => alike_refl n d (aOks_all.mp ha d hd)) ds.length 0 none (by omega)
    rw [show ((0 : Nat) : Int) = 0 from rfl] at hb
    have e : ((ds.length : Nat) : Int).toNat = ds.length := by omega
    have gt : gLen (.p (.tup ds)) = some (.int ds.length) := rfl
    show runF 3 2 (F_law_alike (phi_law_alike (n + 1))) _ = _
    unfold F_law_alike
    simp (disch := omega) only [h1, hb, e, gt, ↓reduceIte, and_self, bindS, mapS, eV_q, kV_p, kV_l, kV_t, eM_q, kM_s, eB_q, kB_s, eC_q, eW_q, kW_p, aN_q, aC_q, kAC_q, kCons_q, aMv_q, kMv_s, kMv2_q, kMv3_s, eL_q, kL_q, eT_q, kT_q, kP_q, kBl_q, kT2_q, eFz_q, kFz_q, eOp_q, kOp1_q, kOp2_q, eCmp_q, kCm1_q, kCm2_q, eNeg_q, kNeg_q, eChain_q, kCh1_q, kCh2_q, kCh3_q, cT_q, kcT_q, cNot_q, kNot_q, cAnd_q, kcAnd_t, kcAnd_f, cOr_q, kcOr_t, kcOr_f, eIf_q, keIf_t, keIf_f, eAnd_q, keAnd_t, keAnd_f, eOr_q, keOr_t, keOr_f, eNot_q, keNot_q, sIf_q, kcIf_t, kcIf_f, eB1_q, kB1_q, eI2_q, kI2_q, eIsi_q, kIsi_q, kLst_q, eList_q, kList_q, kTpl_q, eTuple_q, kTuple_q, eCall_q, kCall_q, kCall2_q, eCallB_q, kCallB_q, kCl_q, allP_n, allP_c, eIx_q, kIx1_q, kIx2_q, oN_q, oS_q, koS_q, eSl_q, kSl1_q, kSl2_q, kSl3_q, cutT_p, cutT_l, sNx_q, sBk_q, sCt_q, sRetN_q, sSeq_q, kSeq_n, kSeq_r, kSeq_b, kSeq_c, sRet_q, kRet_q, sSet_q, kSet_q, sDrop_q, kDrop_q, gNm_q, gEnd_q, gAnd_q, gTp_q, kTp_q, partsT_p, partsT_t, kNx_q, sAsg_q, kAsg_q, sFor_q, kFor_q, loop_n, loop_c, kLp1_q, kLp2_n, kLp2_c, kLp2_b, kLp2_r, iL_q, kiL_q, iTp_q, kiTp_q, iSg_q, kiSg_q, iR1_q, kR1_q, iR2_q, kR2_q, iEn_q, kEn_q, iZp_q, kZp_q, kZp_t, sForV_q, kForV_q, kForV1_q, kForV2_n, kForV2_r, atL_q, kAtL_q, sApp_q, kApp_q, kApp1_q, kApp2_q, sPut_q, kPut_q, kPut1_q, kPut2_q, kPut3_q, kPut4_q, kPutEnd_q, asI_q, sAugIx_q, kAx_q, kAx0_q, kAx1_q, kAx2_q, kAx3_q, kAx4_q, kAx5_q, kAx6_q, kAx7_q, kAx8_q, sAug_q, kAug_q, kAug2_q, kAug3_q, comp_n, comp_c, kCp1_q, kCp2_t, kCp2_f, kCp3_q, kCp4_q, eComp_q, kComp_q, kLs_q, cYes_q, wipe_n, wipe_c, eM1_q, kM11_q, kM12_q, eSplit_q, kSp1_q, kSp2_q, eJoin_q, kJn1_q, kJn2_q, kJn3_q, kJn4_q, eCat_q, kCt0_q, kCt1_q, kCt2_q, kCt3_pl, kCt3_ll, kCt3_lp, kCt3_pp, itemsT_p, itemsT_t, itemsT_ll, isLT_p, isLT_l, eDn_q, eDix_q, kDx1_q, kDx2_q, kDx3_q, kDx4_q, eDget_q, kDg1_q, kDg2_q, kDg3_q, kDg4_q, kDg5_q, eDin_q, kDi1_q, kDi2_q, kDi3_q, kDi4_t, kDi4_f, sPutD_q, kPd1_q, kPd2_q, kPd3_q, kPd4_q, kPd5_q, atD_q, kAtD_q, dicT_p, dicT_o, keyT_i, keyT_s, toD_d, kV_d, sForM_q, kForM_q, loopT_n, loopT_c, kLt1_q, kLt2_n, kLt2_r, eM0_q, kM0_q, iR3_q, runF_q, kRun_r, kRun_n, cutT_s, gStarts, gFind, startE, T.toDs, T.toD, cleanT, tyD, tyOk, List.length_cons, List.length_nil, List.length_map, List.map_cons, List.map_nil, List.replicate, List.cons_append, List.nil_append, List.getElem?_cons_zero, List.getElem?_cons_succ, List.set_cons_zero, List.set_cons_succ, Nat.reduceAdd, Nat.reduceSub, Nat.reduceLT, Nat.reduceLeDiff, Nat.zero_add, gAdd_i, gAdd_g, gSub_i, gAddI_i, gMul_l, gMul_r, gDiv_i, gMod_i, gPow_i, gMulA_g, cLt_i, cLe_i, cGt_i, cGe_i, eqQ_i, neQ_i, eqQ_g, neQ_g, eqQ_ints, neQ_ints, eqQ_b, neQ_b, inQ_g, notInQ_g, gLen_g, gStr_i, gStr_s, gSum_p, gSum_l, gLen_p, gLen_l, toD_l, toDs_p, allP_map, ixT_lst, ixT_pl, ixT_pt, ixT_sg, signsD_g, atI_0, atI_1, atI_2, atI_3, atI_4, atI_5, atI_6, ofS, sg_len, ifLe, ifLt, rng_len, decide_true, decide_false, Bool.false_eq_true, Bool.not_true, Bool.not_false, Int.reduceLT, Int.reduceLE, Int.reduceEq, kit_ii, kit_ib, kit_ll, kit_bb, kit_bi, kit_ss, kit_tt, kit_tl, kit_lt, kit_ls, kit_li, kit_lb, kit_is, kit_si, kit_sb, kit_ti, kit_tb, kit_ts]
  | _, .dic _, h => by unfold aOk at h; cases h
  | _, .dit _, h => by unfold aOk at h; cases h
  | _, .obj _ _, h => by unfold aOk at h; cases h
  | _, .al _, h => by unfold aOk at h; cases h
/-! ### draws -/
def mixed (c k : Int) : Int := (c % 2147483647 * 48271 + (k * k + 3 * k + 7) * 69621) % 2147483647 * ((c % 2147483647 * 48271 + (k * k + 3 * k + 7) * 69621) % 2147483647) % 2147483647
theorem mixed_ok (c k : Int) (hk : -18446744073709551616 < k ∧ k < 18446744073709551616) : phi_law_mixed [.int c, .int k] = some (.p (.int (mixed c k))) := by
  obtain ⟨h1, h2⟩ := hk
  unfold phi_law_mixed F_law_mixed
  simp (disch := omega) only [↓reduceIte, and_self, bindS, mapS, eV_q, kV_p, kV_l, kV_t, eM_q, kM_s, eB_q, kB_s, eC_q, eW_q, kW_p, aN_q, aC_q, kAC_q, kCons_q, aMv_q, kMv_s, kMv2_q, kMv3_s, eL_q, kL_q, eT_q, kT_q, kP_q, kBl_q, kT2_q, eFz_q, kFz_q, eOp_q, kOp1_q, kOp2_q, eCmp_q, kCm1_q, kCm2_q, eNeg_q, kNeg_q, eChain_q, kCh1_q, kCh2_q, kCh3_q, cT_q, kcT_q, cNot_q, kNot_q, cAnd_q, kcAnd_t, kcAnd_f, cOr_q, kcOr_t, kcOr_f, eIf_q, keIf_t, keIf_f, eAnd_q, keAnd_t, keAnd_f, eOr_q, keOr_t, keOr_f, eNot_q, keNot_q, sIf_q, kcIf_t, kcIf_f, eB1_q, kB1_q, eI2_q, kI2_q, eIsi_q, kIsi_q, kLst_q, eList_q, kList_q, kTpl_q, eTuple_q, kTuple_q, eCall_q, kCall_q, kCall2_q, eCallB_q, kCallB_q, kCl_q, allP_n, allP_c, eIx_q, kIx1_q, kIx2_q, oN_q, oS_q, koS_q, eSl_q, kSl1_q, kSl2_q, kSl3_q, cutT_p, cutT_l, sNx_q, sBk_q, sCt_q, sRetN_q, sSeq_q, kSeq_n, kSeq_r, kSeq_b, kSeq_c, sRet_q, kRet_q, sSet_q, kSet_q, sDrop_q, kDrop_q, gNm_q, gEnd_q, gAnd_q, gTp_q, kTp_q, partsT_p, partsT_t, kNx_q, sAsg_q, kAsg_q, sFor_q, kFor_q, loop_n, loop_c, kLp1_q, kLp2_n, kLp2_c, kLp2_b, kLp2_r, iL_q, kiL_q, iTp_q, kiTp_q, iSg_q, kiSg_q, iR1_q, kR1_q, iR2_q, kR2_q, iEn_q, kEn_q, iZp_q, kZp_q, kZp_t, sForV_q, kForV_q, kForV1_q, kForV2_n, kForV2_r, atL_q, kAtL_q, sApp_q, kApp_q, kApp1_q, kApp2_q, sPut_q, kPut_q, kPut1_q, kPut2_q, kPut3_q, kPut4_q, kPutEnd_q, asI_q, sAugIx_q, kAx_q, kAx0_q, kAx1_q, kAx2_q, kAx3_q, kAx4_q, kAx5_q, kAx6_q, kAx7_q, kAx8_q, sAug_q, kAug_q, kAug2_q, kAug3_q, comp_n, comp_c, kCp1_q, kCp2_t, kCp2_f, kCp3_q, kCp4_q, eComp_q, kComp_q, kLs_q, cYes_q, wipe_n, wipe_c, eM1_q, kM11_q, kM12_q, eSplit_q, kSp1_q, kSp2_q, eJoin_q, kJn1_q, kJn2_q, kJn3_q, kJn4_q, eCat_q, kCt0_q, kCt1_q, kCt2_q, kCt3_pl, kCt3_ll, kCt3_lp, kCt3_pp, itemsT_p, itemsT_t, itemsT_ll, isLT_p, isLT_l, eDn_q, eDix_q, kDx1_q, kDx2_q, kDx3_q, kDx4_q, eDget_q, kDg1_q, kDg2_q, kDg3_q, kDg4_q, kDg5_q, eDin_q, kDi1_q, kDi2_q, kDi3_q, kDi4_t, kDi4_f, sPutD_q, kPd1_q, kPd2_q, kPd3_q, kPd4_q, kPd5_q, atD_q, kAtD_q, dicT_p, dicT_o, keyT_i, keyT_s, toD_d, kV_d, sForM_q, kForM_q, loopT_n, loopT_c, kLt1_q, kLt2_n, kLt2_r, eM0_q, kM0_q, iR3_q, runF_q, kRun_r, kRun_n, cutT_s, gStarts, gFind, startE, T.toDs, T.toD, cleanT, tyD, tyOk, List.length_cons, List.length_nil, List.length_map, List.map_cons, List.map_nil, List.replicate, List.cons_append, List.nil_append, List.getElem?_cons_zero, List.getElem?_cons_succ, List.set_cons_zero, List.set_cons_succ, Nat.reduceAdd, Nat.reduceSub, Nat.reduceLT, Nat.reduceLeDiff, Nat.zero_add, gAdd_i, gAdd_g, gSub_i, gAddI_i, gMul_l, gMul_r, gDiv_i, gMod_i, gPow_i, gMulA_g, cLt_i, cLe_i, cGt_i, cGe_i, eqQ_i, neQ_i, eqQ_g, neQ_g, eqQ_ints, neQ_ints, eqQ_b, neQ_b, inQ_g, notInQ_g, gLen_g, gStr_i, gStr_s, gSum_p, gSum_l, gLen_p, gLen_l, toD_l, toDs_p, allP_map, ixT_lst, ixT_pl, ixT_pt, ixT_sg, signsD_g, atI_0, atI_1, atI_2, atI_3, atI_4, atI_5, atI_6, ofS, sg_len, ifLe, ifLt, rng_len, decide_true, decide_false, Bool.false_eq_true, Bool.not_true, Bool.not_false, Int.reduceLT, Int.reduceLE, Int.reduceEq, kit_ii, kit_ib, kit_ll, kit_bb, kit_bi, kit_ss, kit_tt, kit_tl, kit_lt, kit_ls, kit_li, kit_lb, kit_is, kit_si, kit_sb, kit_ti, kit_tb, kit_ts]
  rfl
theorem mixed_range (c k : Int) : 0 ≤ mixed c k ∧ mixed c k < 2147483647 := by
  unfold mixed
  omega
theorem coins_ok (c w m : Int) (hw : 0 ≤ w ∧ w < 2147483647) (hm : 7 ≤ m ∧ m ≤ 1000000000000) : ∃ x, phi_law_coins [.int c, .int w, .int m] = some (.p (.int x)) ∧ 1 ≤ x ∧ x ≤ m := by
  obtain ⟨h1, h2⟩ := hw
  obtain ⟨h3, h4⟩ := hm
  have h5 := Int.emod_nonneg c (show m ≠ 0 by omega)
  have h6 := Int.emod_lt_of_pos c (show 0 < m by omega)
  have h7 := Int.emod_nonneg ((c % m + 1) * (w + 48271) * 99999999999999997) (show m ≠ 0 by omega)
  have h8 := Int.emod_lt_of_pos ((c % m + 1) * (w + 48271) * 99999999999999997) (show 0 < m by omega)
  unfold phi_law_coins F_law_coins
  have hc : w % 5 = 0 ∨ w % 5 = 1 ∨ w % 5 = 2 ∨ w % 5 = 3 ∨ w % 5 = 4 := by omega
  rcases hc with h | h | h | h | h
  · simp (disch := omega) only [h, ↓reduceIte, and_self, bindS, mapS, eV_q, kV_p, kV_l, kV_t, eM_q, kM_s, eB_q, kB_s, eC_q, eW_q, kW_p, aN_q, aC_q, kAC_q, kCons_q, aMv_q, kMv_s, kMv2_q, kMv3_s, eL_q, kL_q, eT_q, kT_q, kP_q, kBl_q, kT2_q, eFz_q, kFz_q, eOp_q, kOp1_q, kOp2_q, eCmp_q, kCm1_q, kCm2_q, eNeg_q, kNeg_q, eChain_q, kCh1_q, kCh2_q, kCh3_q, cT_q, kcT_q, cNot_q, kNot_q, cAnd_q, kcAnd_t, kcAnd_f, cOr_q, kcOr_t, kcOr_f, eIf_q, keIf_t, keIf_f, eAnd_q, keAnd_t, keAnd_f, eOr_q, keOr_t, keOr_f, eNot_q, keNot_q, sIf_q, kcIf_t, kcIf_f, eB1_q, kB1_q, eI2_q, kI2_q, eIsi_q, kIsi_q, kLst_q, eList_q, kList_q, kTpl_q, eTuple_q, kTuple_q, eCall_q, kCall_q, kCall2_q, eCallB_q, kCallB_q, kCl_q, allP_n, allP_c, eIx_q, kIx1_q, kIx2_q, oN_q, oS_q, koS_q, eSl_q, kSl1_q, kSl2_q, kSl3_q, cutT_p, cutT_l, sNx_q, sBk_q, sCt_q, sRetN_q, sSeq_q, kSeq_n, kSeq_r, kSeq_b, kSeq_c, sRet_q, kRet_q, sSet_q, kSet_q, sDrop_q, kDrop_q, gNm_q, gEnd_q, gAnd_q, gTp_q, kTp_q, partsT_p, partsT_t, kNx_q, sAsg_q, kAsg_q, sFor_q, kFor_q, loop_n, loop_c, kLp1_q, kLp2_n, kLp2_c, kLp2_b, kLp2_r, iL_q, kiL_q, iTp_q, kiTp_q, iSg_q, kiSg_q, iR1_q, kR1_q, iR2_q, kR2_q, iEn_q, kEn_q, iZp_q, kZp_q, kZp_t, sForV_q, kForV_q, kForV1_q, kForV2_n, kForV2_r, atL_q, kAtL_q, sApp_q, kApp_q, kApp1_q, kApp2_q, sPut_q, kPut_q, kPut1_q, kPut2_q, kPut3_q, kPut4_q, kPutEnd_q, asI_q, sAugIx_q, kAx_q, kAx0_q, kAx1_q, kAx2_q, kAx3_q, kAx4_q, kAx5_q, kAx6_q, kAx7_q, kAx8_q, sAug_q, kAug_q, kAug2_q, kAug3_q, comp_n, comp_c, kCp1_q, kCp2_t, kCp2_f, kCp3_q, kCp4_q, eComp_q, kComp_q, kLs_q, cYes_q, wipe_n, wipe_c, eM1_q, kM11_q, kM12_q, eSplit_q, kSp1_q, kSp2_q, eJoin_q, kJn1_q, kJn2_q, kJn3_q, kJn4_q, eCat_q, kCt0_q, kCt1_q, kCt2_q, kCt3_pl, kCt3_ll, kCt3_lp, kCt3_pp, itemsT_p, itemsT_t, itemsT_ll, isLT_p, isLT_l, eDn_q, eDix_q, kDx1_q, kDx2_q, kDx3_q, kDx4_q, eDget_q, kDg1_q, kDg2_q, kDg3_q, kDg4_q, kDg5_q, eDin_q, kDi1_q, kDi2_q, kDi3_q, kDi4_t, kDi4_f, sPutD_q, kPd1_q, kPd2_q, kPd3_q, kPd4_q, kPd5_q, atD_q, kAtD_q, dicT_p, dicT_o, keyT_i, keyT_s, toD_d, kV_d, sForM_q, kForM_q, loopT_n, loopT_c, kLt1_q, kLt2_n, kLt2_r, eM0_q, kM0_q, iR3_q, runF_q, kRun_r, kRun_n, cutT_s, gStarts, gFind, startE, T.toDs, T.toD, cleanT, tyD, tyOk, List.length_cons, List.length_nil, List.length_map, List.map_cons, List.map_nil, List.replicate, List.cons_append, List.nil_append, List.getElem?_cons_zero, List.getElem?_cons_succ, List.set_cons_zero, List.set_cons_succ, Nat.reduceAdd, Nat.reduceSub, Nat.reduceLT, Nat.reduceLeDiff, Nat.zero_add, gAdd_i, gAdd_g, gSub_i, gAddI_i, gMul_l, gMul_r, gDiv_i, gMod_i, gPow_i, gMulA_g, cLt_i, cLe_i, cGt_i, cGe_i, eqQ_i, neQ_i, eqQ_g, neQ_g, eqQ_ints, neQ_ints, eqQ_b, neQ_b, inQ_g, notInQ_g, gLen_g, gStr_i, gStr_s, gSum_p, gSum_l, gLen_p, gLen_l, toD_l, toDs_p, allP_map, ixT_lst, ixT_pl, ixT_pt, ixT_sg, signsD_g, atI_0, atI_1, atI_2, atI_3, atI_4, atI_5, atI_6, ofS, sg_len, ifLe, ifLt, rng_len, decide_true, decide_false, Bool.false_eq_true, Bool.not_true, Bool.not_false, Int.reduceLT, Int.reduceLE, Int.reduceEq, kit_ii, kit_ib, kit_ll, kit_bb, kit_bi, kit_ss, kit_tt, kit_tl, kit_lt, kit_ls, kit_li, kit_lb, kit_is, kit_si, kit_sb, kit_ti, kit_tb, kit_ts]; exact ⟨_, rfl, by omega, by omega⟩
  · simp (disch := omega) only [h, ↓reduceIte, and_self, bindS, mapS, eV_q, kV_p, kV_l, kV_t, eM_q, kM_s, eB_q, kB_s, eC_q, eW_q, kW_p, aN_q, aC_q, kAC_q, kCons_q, aMv_q, kMv_s, kMv2_q, kMv3_s, eL_q, kL_q, eT_q, kT_q, kP_q, kBl_q, kT2_q, eFz_q, kFz_q, eOp_q, kOp1_q, kOp2_q, eCmp_q, kCm1_q, kCm2_q, eNeg_q, kNeg_q, eChain_q, kCh1_q, kCh2_q, kCh3_q, cT_q, kcT_q, cNot_q, kNot_q, cAnd_q, kcAnd_t, kcAnd_f, cOr_q, kcOr_t, kcOr_f, eIf_q, keIf_t, keIf_f, eAnd_q, keAnd_t, keAnd_f, eOr_q, keOr_t, keOr_f, eNot_q, keNot_q, sIf_q, kcIf_t, kcIf_f, eB1_q, kB1_q, eI2_q, kI2_q, eIsi_q, kIsi_q, kLst_q, eList_q, kList_q, kTpl_q, eTuple_q, kTuple_q, eCall_q, kCall_q, kCall2_q, eCallB_q, kCallB_q, kCl_q, allP_n, allP_c, eIx_q, kIx1_q, kIx2_q, oN_q, oS_q, koS_q, eSl_q, kSl1_q, kSl2_q, kSl3_q, cutT_p, cutT_l, sNx_q, sBk_q, sCt_q, sRetN_q, sSeq_q, kSeq_n, kSeq_r, kSeq_b, kSeq_c, sRet_q, kRet_q, sSet_q, kSet_q, sDrop_q, kDrop_q, gNm_q, gEnd_q, gAnd_q, gTp_q, kTp_q, partsT_p, partsT_t, kNx_q, sAsg_q, kAsg_q, sFor_q, kFor_q, loop_n, loop_c, kLp1_q, kLp2_n, kLp2_c, kLp2_b, kLp2_r, iL_q, kiL_q, iTp_q, kiTp_q, iSg_q, kiSg_q, iR1_q, kR1_q, iR2_q, kR2_q, iEn_q, kEn_q, iZp_q, kZp_q, kZp_t, sForV_q, kForV_q, kForV1_q, kForV2_n, kForV2_r, atL_q, kAtL_q, sApp_q, kApp_q, kApp1_q, kApp2_q, sPut_q, kPut_q, kPut1_q, kPut2_q, kPut3_q, kPut4_q, kPutEnd_q, asI_q, sAugIx_q, kAx_q, kAx0_q, kAx1_q, kAx2_q, kAx3_q, kAx4_q, kAx5_q, kAx6_q, kAx7_q, kAx8_q, sAug_q, kAug_q, kAug2_q, kAug3_q, comp_n, comp_c, kCp1_q, kCp2_t, kCp2_f, kCp3_q, kCp4_q, eComp_q, kComp_q, kLs_q, cYes_q, wipe_n, wipe_c, eM1_q, kM11_q, kM12_q, eSplit_q, kSp1_q, kSp2_q, eJoin_q, kJn1_q, kJn2_q, kJn3_q, kJn4_q, eCat_q, kCt0_q, kCt1_q, kCt2_q, kCt3_pl, kCt3_ll, kCt3_lp, kCt3_pp, itemsT_p, itemsT_t, itemsT_ll, isLT_p, isLT_l, eDn_q, eDix_q, kDx1_q, kDx2_q, kDx3_q, kDx4_q, eDget_q, kDg1_q, kDg2_q, kDg3_q, kDg4_q, kDg5_q, eDin_q, kDi1_q, kDi2_q, kDi3_q, kDi4_t, kDi4_f, sPutD_q, kPd1_q, kPd2_q, kPd3_q, kPd4_q, kPd5_q, atD_q, kAtD_q, dicT_p, dicT_o, keyT_i, keyT_s, toD_d, kV_d, sForM_q, kForM_q, loopT_n, loopT_c, kLt1_q, kLt2_n, kLt2_r, eM0_q, kM0_q, iR3_q, runF_q, kRun_r, kRun_n, cutT_s, gStarts, gFind, startE, T.toDs, T.toD, cleanT, tyD, tyOk, List.length_cons, List.length_nil, List.length_map, List.map_cons, List.map_nil, List.replicate, List.cons_append, List.nil_append, List.getElem?_cons_zero, List.getElem?_cons_succ, List.set_cons_zero, List.set_cons_succ, Nat.reduceAdd, Nat.reduceSub, Nat.reduceLT, Nat.reduceLeDiff, Nat.zero_add, gAdd_i, gAdd_g, gSub_i, gAddI_i, gMul_l, gMul_r, gDiv_i, gMod_i, gPow_i, gMulA_g, cLt_i, cLe_i, cGt_i, cGe_i, eqQ_i, neQ_i, eqQ_g, neQ_g, eqQ_ints, neQ_ints, eqQ_b, neQ_b, inQ_g, notInQ_g, gLen_g, gStr_i, gStr_s, gSum_p, gSum_l, gLen_p, gLen_l, toD_l, toDs_p, allP_map, ixT_lst, ixT_pl, ixT_pt, ixT_sg, signsD_g, atI_0, atI_1, atI_2, atI_3, atI_4, atI_5, atI_6, ofS, sg_len, ifLe, ifLt, rng_len, decide_true, decide_false, Bool.false_eq_true, Bool.not_true, Bool.not_false, Int.reduceLT, Int.reduceLE, Int.reduceEq, kit_ii, kit_ib, kit_ll, kit_bb, kit_bi, kit_ss, kit_tt, kit_tl, kit_lt, kit_ls, kit_li, kit_lb, kit_is, kit_si, kit_sb, kit_ti, kit_tb, kit_ts]; exact ⟨_, rfl, by omega, by omega⟩
  · simp (disch := omega) only [h, ↓reduceIte, and_self, bindS, mapS, eV_q, kV_p, kV_l, kV_t, eM_q, kM_s, eB_q, kB_s, eC_q, eW_q, kW_p, aN_q, aC_q, kAC_q, kCons_q, aMv_q, kMv_s, kMv2_q, kMv3_s, eL_q, kL_q, eT_q, kT_q, kP_q, kBl_q, kT2_q, eFz_q, kFz_q, eOp_q, kOp1_q, kOp2_q, eCmp_q, kCm1_q, kCm2_q, eNeg_q, kNeg_q, eChain_q, kCh1_q, kCh2_q, kCh3_q, cT_q, kcT_q, cNot_q, kNot_q, cAnd_q, kcAnd_t, kcAnd_f, cOr_q, kcOr_t, kcOr_f, eIf_q, keIf_t, keIf_f, eAnd_q, keAnd_t, keAnd_f, eOr_q, keOr_t, keOr_f, eNot_q, keNot_q, sIf_q, kcIf_t, kcIf_f, eB1_q, kB1_q, eI2_q, kI2_q, eIsi_q, kIsi_q, kLst_q, eList_q, kList_q, kTpl_q, eTuple_q, kTuple_q, eCall_q, kCall_q, kCall2_q, eCallB_q, kCallB_q, kCl_q, allP_n, allP_c, eIx_q, kIx1_q, kIx2_q, oN_q, oS_q, koS_q, eSl_q, kSl1_q, kSl2_q, kSl3_q, cutT_p, cutT_l, sNx_q, sBk_q, sCt_q, sRetN_q, sSeq_q, kSeq_n, kSeq_r, kSeq_b, kSeq_c, sRet_q, kRet_q, sSet_q, kSet_q, sDrop_q, kDrop_q, gNm_q, gEnd_q, gAnd_q, gTp_q, kTp_q, partsT_p, partsT_t, kNx_q, sAsg_q, kAsg_q, sFor_q, kFor_q, loop_n, loop_c, kLp1_q, kLp2_n, kLp2_c, kLp2_b, kLp2_r, iL_q, kiL_q, iTp_q, kiTp_q, iSg_q, kiSg_q, iR1_q, kR1_q, iR2_q, kR2_q, iEn_q, kEn_q, iZp_q, kZp_q, kZp_t, sForV_q, kForV_q, kForV1_q, kForV2_n, kForV2_r, atL_q, kAtL_q, sApp_q, kApp_q, kApp1_q, kApp2_q, sPut_q, kPut_q, kPut1_q, kPut2_q, kPut3_q, kPut4_q, kPutEnd_q, asI_q, sAugIx_q, kAx_q, kAx0_q, kAx1_q, kAx2_q, kAx3_q, kAx4_q, kAx5_q, kAx6_q, kAx7_q, kAx8_q, sAug_q, kAug_q, kAug2_q, kAug3_q, comp_n, comp_c, kCp1_q, kCp2_t, kCp2_f, kCp3_q, kCp4_q, eComp_q, kComp_q, kLs_q, cYes_q, wipe_n, wipe_c, eM1_q, kM11_q, kM12_q, eSplit_q, kSp1_q, kSp2_q, eJoin_q, kJn1_q, kJn2_q, kJn3_q, kJn4_q, eCat_q, kCt0_q, kCt1_q, kCt2_q, kCt3_pl, kCt3_ll, kCt3_lp, kCt3_pp, itemsT_p, itemsT_t, itemsT_ll, isLT_p, isLT_l, eDn_q, eDix_q, kDx1_q, kDx2_q, kDx3_q, kDx4_q, eDget_q, kDg1_q, kDg2_q, kDg3_q, kDg4_q, kDg5_q, eDin_q, kDi1_q, kDi2_q, kDi3_q, kDi4_t, kDi4_f, sPutD_q, kPd1_q, kPd2_q, kPd3_q, kPd4_q, kPd5_q, atD_q, kAtD_q, dicT_p, dicT_o, keyT_i, keyT_s, toD_d, kV_d, sForM_q, kForM_q, loopT_n, loopT_c, kLt1_q, kLt2_n, kLt2_r, eM0_q, kM0_q, iR3_q, runF_q, kRun_r, kRun_n, cutT_s, gStarts, gFind, startE, T.toDs, T.toD, cleanT, tyD, tyOk, List.length_cons, List.length_nil, List.length_map, List.map_cons, List.map_nil, List.replicate, List.cons_append, List.nil_append, List.getElem?_cons_zero, List.getElem?_cons_succ, List.set_cons_zero, List.set_cons_succ, Nat.reduceAdd, Nat.reduceSub, Nat.reduceLT, Nat.reduceLeDiff, Nat.zero_add, gAdd_i, gAdd_g, gSub_i, gAddI_i, gMul_l, gMul_r, gDiv_i, gMod_i, gPow_i, gMulA_g, cLt_i, cLe_i, cGt_i, cGe_i, eqQ_i, neQ_i, eqQ_g, neQ_g, eqQ_ints, neQ_ints, eqQ_b, neQ_b, inQ_g, notInQ_g, gLen_g, gStr_i, gStr_s, gSum_p, gSum_l, gLen_p, gLen_l, toD_l, toDs_p, allP_map, ixT_lst, ixT_pl, ixT_pt, ixT_sg, signsD_g, atI_0, atI_1, atI_2, atI_3, atI_4, atI_5, atI_6, ofS, sg_len, ifLe, ifLt, rng_len, decide_true, decide_false, Bool.false_eq_true, Bool.not_true, Bool.not_false, Int.reduceLT, Int.reduceLE, Int.reduceEq, kit_ii, kit_ib, kit_ll, kit_bb, kit_bi, kit_ss, kit_tt, kit_tl, kit_lt, kit_ls, kit_li, kit_lb, kit_is, kit_si, kit_sb, kit_ti, kit_tb, kit_ts]; exact ⟨_, rfl, by omega, by omega⟩
  · simp (disch := omega) only [h, ↓reduceIte, and_self, bindS, mapS, eV_q, kV_p, kV_l, kV_t, eM_q, kM_s, eB_q, kB_s, eC_q, eW_q, kW_p, aN_q, aC_q, kAC_q, kCons_q, aMv_q, kMv_s, kMv2_q, kMv3_s, eL_q, kL_q, eT_q, kT_q, kP_q, kBl_q, kT2_q, eFz_q, kFz_q, eOp_q, kOp1_q, kOp2_q, eCmp_q, kCm1_q, kCm2_q, eNeg_q, kNeg_q, eChain_q, kCh1_q, kCh2_q, kCh3_q, cT_q, kcT_q, cNot_q, kNot_q, cAnd_q, kcAnd_t, kcAnd_f, cOr_q, kcOr_t, kcOr_f, eIf_q, keIf_t, keIf_f, eAnd_q, keAnd_t, keAnd_f, eOr_q, keOr_t, keOr_f, eNot_q, keNot_q, sIf_q, kcIf_t, kcIf_f, eB1_q, kB1_q, eI2_q, kI2_q, eIsi_q, kIsi_q, kLst_q, eList_q, kList_q, kTpl_q, eTuple_q, kTuple_q, eCall_q, kCall_q, kCall2_q, eCallB_q, kCallB_q, kCl_q, allP_n, allP_c, eIx_q, kIx1_q, kIx2_q, oN_q, oS_q, koS_q, eSl_q, kSl1_q, kSl2_q, kSl3_q, cutT_p, cutT_l, sNx_q, sBk_q, sCt_q, sRetN_q, sSeq_q, kSeq_n, kSeq_r, kSeq_b, kSeq_c, sRet_q, kRet_q, sSet_q, kSet_q, sDrop_q, kDrop_q, gNm_q, gEnd_q, gAnd_q, gTp_q, kTp_q, partsT_p, partsT_t, kNx_q, sAsg_q, kAsg_q, sFor_q, kFor_q, loop_n, loop_c, kLp1_q, kLp2_n, kLp2_c, kLp2_b, kLp2_r, iL_q, kiL_q, iTp_q, kiTp_q, iSg_q, kiSg_q, iR1_q, kR1_q, iR2_q, kR2_q, iEn_q, kEn_q, iZp_q, kZp_q, kZp_t, sForV_q, kForV_q, kForV1_q, kForV2_n, kForV2_r, atL_q, kAtL_q, sApp_q, kApp_q, kApp1_q, kApp2_q, sPut_q, kPut_q, kPut1_q, kPut2_q, kPut3_q, kPut4_q, kPutEnd_q, asI_q, sAugIx_q, kAx_q, kAx0_q, kAx1_q, kAx2_q, kAx3_q, kAx4_q, kAx5_q, kAx6_q, kAx7_q, kAx8_q, sAug_q, kAug_q, kAug2_q, kAug3_q, comp_n, comp_c, kCp1_q, kCp2_t, kCp2_f, kCp3_q, kCp4_q, eComp_q, kComp_q, kLs_q, cYes_q, wipe_n, wipe_c, eM1_q, kM11_q, kM12_q, eSplit_q, kSp1_q, kSp2_q, eJoin_q, kJn1_q, kJn2_q, kJn3_q, kJn4_q, eCat_q, kCt0_q, kCt1_q, kCt2_q, kCt3_pl, kCt3_ll, kCt3_lp, kCt3_pp, itemsT_p, itemsT_t, itemsT_ll, isLT_p, isLT_l, eDn_q, eDix_q, kDx1_q, kDx2_q, kDx3_q, kDx4_q, eDget_q, kDg1_q, kDg2_q, kDg3_q, kDg4_q, kDg5_q, eDin_q, kDi1_q, kDi2_q, kDi3_q, kDi4_t, kDi4_f, sPutD_q, kPd1_q, kPd2_q, kPd3_q, kPd4_q, kPd5_q, atD_q, kAtD_q, dicT_p, dicT_o, keyT_i, keyT_s, toD_d, kV_d, sForM_q, kForM_q, loopT_n, loopT_c, kLt1_q, kLt2_n, kLt2_r, eM0_q, kM0_q, iR3_q, runF_q, kRun_r, kRun_n, cutT_s, gStarts, gFind, startE, T.toDs, T.toD, cleanT, tyD, tyOk, List.length_cons, List.length_nil, List.length_map, List.map_cons, List.map_nil, List.replicate, List.cons_append, List.nil_append, List.getElem?_cons_zero, List.getElem?_cons_succ, List.set_cons_zero, List.set_cons_succ, Nat.reduceAdd, Nat.reduceSub, Nat.reduceLT, Nat.reduceLeDiff, Nat.zero_add, gAdd_i, gAdd_g, gSub_i, gAddI_i, gMul_l, gMul_r, gDiv_i, gMod_i, gPow_i, gMulA_g, cLt_i, cLe_i, cGt_i, cGe_i, eqQ_i, neQ_i, eqQ_g, neQ_g, eqQ_ints, neQ_ints, eqQ_b, neQ_b, inQ_g, notInQ_g, gLen_g, gStr_i, gStr_s, gSum_p, gSum_l, gLen_p, gLen_l, toD_l, toDs_p, allP_map, ixT_lst, ixT_pl, ixT_pt, ixT_sg, signsD_g, atI_0, atI_1, atI_2, atI_3, atI_4, atI_5, atI_6, ofS, sg_len, ifLe, ifLt, rng_len, decide_true, decide_false, Bool.false_eq_true, Bool.not_true, Bool.not_false, Int.reduceLT, Int.reduceLE, Int.reduceEq, kit_ii, kit_ib, kit_ll, kit_bb, kit_bi, kit_ss, kit_tt, kit_tl, kit_lt, kit_ls, kit_li, kit_lb, kit_is, kit_si, kit_sb, kit_ti, kit_tb, kit_ts]; exact ⟨_, rfl, by omega, by omega⟩
  · simp (disch := omega) only [h, ↓reduceIte, and_self, bindS, mapS, eV_q, kV_p, kV_l, kV_t, eM_q, kM_s, eB_q, kB_s, eC_q, eW_q, kW_p, aN_q, aC_q, kAC_q, kCons_q, aMv_q, kMv_s, kMv2_q, kMv3_s, eL_q, kL_q, eT_q, kT_q, kP_q, kBl_q, kT2_q, eFz_q, kFz_q, eOp_q, kOp1_q, kOp2_q, eCmp_q, kCm1_q, kCm2_q, eNeg_q, kNeg_q, eChain_q, kCh1_q, kCh2_q, kCh3_q, cT_q, kcT_q, cNot_q, kNot_q, cAnd_q, kcAnd_t, kcAnd_f, cOr_q, kcOr_t, kcOr_f, eIf_q, keIf_t, keIf_f, eAnd_q, keAnd_t, keAnd_f, eOr_q, keOr_t, keOr_f, eNot_q, keNot_q, sIf_q, kcIf_t, kcIf_f, eB1_q, kB1_q, eI2_q, kI2_q, eIsi_q, kIsi_q, kLst_q, eList_q, kList_q, kTpl_q, eTuple_q, kTuple_q, eCall_q, kCall_q, kCall2_q, eCallB_q, kCallB_q, kCl_q, allP_n, allP_c, eIx_q, kIx1_q, kIx2_q, oN_q, oS_q, koS_q, eSl_q, kSl1_q, kSl2_q, kSl3_q, cutT_p, cutT_l, sNx_q, sBk_q, sCt_q, sRetN_q, sSeq_q, kSeq_n, kSeq_r, kSeq_b, kSeq_c, sRet_q, kRet_q, sSet_q, kSet_q, sDrop_q, kDrop_q, gNm_q, gEnd_q, gAnd_q, gTp_q, kTp_q, partsT_p, partsT_t, kNx_q, sAsg_q, kAsg_q, sFor_q, kFor_q, loop_n, loop_c, kLp1_q, kLp2_n, kLp2_c, kLp2_b, kLp2_r, iL_q, kiL_q, iTp_q, kiTp_q, iSg_q, kiSg_q, iR1_q, kR1_q, iR2_q, kR2_q, iEn_q, kEn_q, iZp_q, kZp_q, kZp_t, sForV_q, kForV_q, kForV1_q, kForV2_n, kForV2_r, atL_q, kAtL_q, sApp_q, kApp_q, kApp1_q, kApp2_q, sPut_q, kPut_q, kPut1_q, kPut2_q, kPut3_q, kPut4_q, kPutEnd_q, asI_q, sAugIx_q, kAx_q, kAx0_q, kAx1_q, kAx2_q, kAx3_q, kAx4_q, kAx5_q, kAx6_q, kAx7_q, kAx8_q, sAug_q, kAug_q, kAug2_q, kAug3_q, comp_n, comp_c, kCp1_q, kCp2_t, kCp2_f, kCp3_q, kCp4_q, eComp_q, kComp_q, kLs_q, cYes_q, wipe_n, wipe_c, eM1_q, kM11_q, kM12_q, eSplit_q, kSp1_q, kSp2_q, eJoin_q, kJn1_q, kJn2_q, kJn3_q, kJn4_q, eCat_q, kCt0_q, kCt1_q, kCt2_q, kCt3_pl, kCt3_ll, kCt3_lp, kCt3_pp, itemsT_p, itemsT_t, itemsT_ll, isLT_p, isLT_l, eDn_q, eDix_q, kDx1_q, kDx2_q, kDx3_q, kDx4_q, eDget_q, kDg1_q, kDg2_q, kDg3_q, kDg4_q, kDg5_q, eDin_q, kDi1_q, kDi2_q, kDi3_q, kDi4_t, kDi4_f, sPutD_q, kPd1_q, kPd2_q, kPd3_q, kPd4_q, kPd5_q, atD_q, kAtD_q, dicT_p, dicT_o, keyT_i, keyT_s, toD_d, kV_d, sForM_q, kForM_q, loopT_n, loopT_c, kLt1_q, kLt2_n, kLt2_r, eM0_q, kM0_q, iR3_q, runF_q, kRun_r, kRun_n, cutT_s, gStarts, gFind, startE, T.toDs, T.toD, cleanT, tyD, tyOk, List.length_cons, List.length_nil, List.length_map, List.map_cons, List.map_nil, List.replicate, List.cons_append, List.nil_append, List.getElem?_cons_zero, List.getElem?_cons_succ, List.set_cons_zero, List.set_cons_succ, Nat.reduceAdd, Nat.reduceSub, Nat.reduceLT, Nat.reduceLeDiff, Nat.zero_add, gAdd_i, gAdd_g, gSub_i, gAddI_i, gMul_l, gMul_r, gDiv_i, gMod_i, gPow_i, gMulA_g, cLt_i, cLe_i, cGt_i, cGe_i, eqQ_i, neQ_i, eqQ_g, neQ_g, eqQ_ints, neQ_ints, eqQ_b, neQ_b, inQ_g, notInQ_g, gLen_g, gStr_i, gStr_s, gSum_p, gSum_l, gLen_p, gLen_l, toD_l, toDs_p, allP_map, ixT_lst, ixT_pl, ixT_pt, ixT_sg, signsD_g, atI_0, atI_1, atI_2, atI_3, atI_4, atI_5, atI_6, ofS, sg_len, ifLe, ifLt, rng_len, decide_true, decide_false, Bool.false_eq_true, Bool.not_true, Bool.not_false, Int.reduceLT, Int.reduceLE, Int.reduceEq, kit_ii, kit_ib, kit_ll, kit_bb, kit_bi, kit_ss, kit_tt, kit_tl, kit_lt, kit_ls, kit_li, kit_lb, kit_is, kit_si, kit_sb, kit_ti, kit_tb, kit_ts]; exact ⟨_, rfl, by omega, by omega⟩
/-! ### words with blanks between -/
theorem spaced_loop (a0 : Option T) (m : Int) (hm : 0 ≤ m) : ∀ (ws : List (List Nat)) (k : Nat) (acc : List Nat) (a3 a4 : Option T), (∀ w ∈ ws, 32 ∉ w ∧ w ≠ [] ∧ w.length ≤ 100) → k + ws.length ≤ 100 → acc.length ≤ 10 + 103 * k → (k = 0 → ∃ n, acc = List.replicate n 32) →
    ∃ (acc' : List Nat) (b3 b4 : Option T), loopD (gTp 2 (gAnd (gNm 3) (gAnd (gNm 4) gEnd))) B_law_spaced_1 (enumD k (ws.map wD)) [a0, some (.p (.int m)), some (.p (.str (sg acc))), a3, a4] = some (.nx, [a0, some (.p (.int m)), some (.p (.str (sg acc'))), b3, b4]) ∧ toks acc' = toks acc ++ ws ∧ acc'.length ≤ 10 + 103 * (k + ws.length)
  | [], k, acc, a3, a4, _, _, hl, _ => ⟨acc, a3, a4, rfl, by simp, by simpa using hl⟩
  | w :: ws, k, acc, a3, a4, hw, hk, hl, h0 => by
    obtain ⟨w1, w2, w3⟩ := hw w (by simp)
    rw [List.length_cons] at hk
    have e32 : cod " " = [32] := by decide
    have fl : ∀ n : Nat, (List.replicate n [32]).flatten = List.replicate n 32 := fun n => by
      induction n with
      | zero => rfl
      | succ n ih => rw [List.replicate_succ, List.flatten_cons, ih]; rfl
    by_cases hz : k = 0
    · subst hz
      obtain ⟨n, hn⟩ := h0 rfl
      obtain ⟨acc', b3, b4, ih, t1, t2⟩ := spaced_loop a0 m hm ws 1 (acc ++ w) (some (.p (.int ((0 : Nat) : Int)))) (some (.p (wD w))) (fun x hx => hw x (by simp [hx])) (by omega) (by rw [List.length_append]; omega) (fun h => by omega)
      refine ⟨acc', b3, b4, ?_, ?_, by rw [List.length_cons]; omega⟩
      · have g1 : gAdd (.str (sg acc)) (.str (sg w)) = some (.str (sg (acc ++ w))) := gAdd_g (by omega)
        have hb : B_law_spaced_1 [a0, some (.p (.int m)), some (.p (.str (sg acc))), some (.p (.int ((0 : Nat) : Int))), some (.p (wD w))] = some (.nx, [a0, some (.p (.int m)), some (.p (.str (sg (acc ++ w)))), some (.p (.int ((0 : Nat) : Int))), some (.p (wD w))]) := by
          have z : ¬ (0 : Int) < ((0 : Nat) : Int) := by omega
          unfold B_law_spaced_1
          simp (disch := omega) only [z, g1, ↓reduceIte, and_self, bindS, mapS, eV_q, kV_p, kV_l, kV_t, eM_q, kM_s, eB_q, kB_s, eC_q, eW_q, kW_p, aN_q, aC_q, kAC_q, kCons_q, aMv_q, kMv_s, kMv2_q, kMv3_s, eL_q, kL_q, eT_q, kT_q, kP_q, kBl_q, kT2_q, eFz_q, kFz_q, eOp_q, kOp1_q, kOp2_q, eCmp_q, kCm1_q, kCm2_q, eNeg_q, kNeg_q, eChain_q, kCh1_q, kCh2_q, kCh3_q, cT_q, kcT_q, cNot_q, kNot_q, cAnd_q, kcAnd_t, kcAnd_f, cOr_q, kcOr_t, kcOr_f, eIf_q, keIf_t, keIf_f, eAnd_q, keAnd_t, keAnd_f, eOr_q, keOr_t, keOr_f, eNot_q, keNot_q, sIf_q, kcIf_t, kcIf_f, eB1_q, kB1_q, eI2_q, kI2_q, eIsi_q, kIsi_q, kLst_q, eList_q, kList_q, kTpl_q, eTuple_q, kTuple_q, eCall_q, kCall_q, kCall2_q, eCallB_q, kCallB_q, kCl_q, allP_n, allP_c, eIx_q, kIx1_q, kIx2_q, oN_q, oS_q, koS_q, eSl_q, kSl1_q, kSl2_q, kSl3_q, cutT_p, cutT_l, sNx_q, sBk_q, sCt_q, sRetN_q, sSeq_q, kSeq_n, kSeq_r, kSeq_b, kSeq_c, sRet_q, kRet_q, sSet_q, kSet_q, sDrop_q, kDrop_q, gNm_q, gEnd_q, gAnd_q, gTp_q, kTp_q, partsT_p, partsT_t, kNx_q, sAsg_q, kAsg_q, sFor_q, kFor_q, loop_n, loop_c, kLp1_q, kLp2_n, kLp2_c, kLp2_b, kLp2_r, iL_q, kiL_q, iTp_q, kiTp_q, iSg_q, kiSg_q, iR1_q, kR1_q, iR2_q, kR2_q, iEn_q, kEn_q, iZp_q, kZp_q, kZp_t, sForV_q, kForV_q, kForV1_q, kForV2_n, kForV2_r, atL_q, kAtL_q, sApp_q, kApp_q, kApp1_q, kApp2_q, sPut_q, kPut_q, kPut1_q, kPut2_q, kPut3_q, kPut4_q, kPutEnd_q, asI_q, sAugIx_q, kAx_q, kAx0_q, kAx1_q, kAx2_q, kAx3_q, kAx4_q, kAx5_q, kAx6_q, kAx7_q, kAx8_q, sAug_q, kAug_q, kAug2_q, kAug3_q, comp_n, comp_c, kCp1_q, kCp2_t, kCp2_f, kCp3_q, kCp4_q, eComp_q, kComp_q, kLs_q, cYes_q, wipe_n, wipe_c, eM1_q, kM11_q, kM12_q, eSplit_q, kSp1_q, kSp2_q, eJoin_q, kJn1_q, kJn2_q, kJn3_q, kJn4_q, eCat_q, kCt0_q, kCt1_q, kCt2_q, kCt3_pl, kCt3_ll, kCt3_lp, kCt3_pp, itemsT_p, itemsT_t, itemsT_ll, isLT_p, isLT_l, eDn_q, eDix_q, kDx1_q, kDx2_q, kDx3_q, kDx4_q, eDget_q, kDg1_q, kDg2_q, kDg3_q, kDg4_q, kDg5_q, eDin_q, kDi1_q, kDi2_q, kDi3_q, kDi4_t, kDi4_f, sPutD_q, kPd1_q, kPd2_q, kPd3_q, kPd4_q, kPd5_q, atD_q, kAtD_q, dicT_p, dicT_o, keyT_i, keyT_s, toD_d, kV_d, sForM_q, kForM_q, loopT_n, loopT_c, kLt1_q, kLt2_n, kLt2_r, eM0_q, kM0_q, iR3_q, runF_q, kRun_r, kRun_n, cutT_s, gStarts, gFind, startE, T.toDs, T.toD, cleanT, tyD, tyOk, List.length_cons, List.length_nil, List.length_map, List.map_cons, List.map_nil, List.replicate, List.cons_append, List.nil_append, List.getElem?_cons_zero, List.getElem?_cons_succ, List.set_cons_zero, List.set_cons_succ, Nat.reduceAdd, Nat.reduceSub, Nat.reduceLT, Nat.reduceLeDiff, Nat.zero_add, gAdd_i, gSub_i, gAddI_i, gMul_l, gMul_r, gDiv_i, gMod_i, gPow_i, gMulA_g, cLt_i, cLe_i, cGt_i, cGe_i, eqQ_i, neQ_i, eqQ_g, neQ_g, eqQ_ints, neQ_ints, eqQ_b, neQ_b, inQ_g, notInQ_g, gLen_g, gStr_i, gStr_s, gSum_p, gSum_l, gLen_p, gLen_l, toD_l, toDs_p, allP_map, ixT_lst, ixT_pl, ixT_pt, ixT_sg, signsD_g, atI_0, atI_1, atI_2, atI_3, atI_4, atI_5, atI_6, ofS, sg_len, ifLe, ifLt, rng_len, decide_true, decide_false, Bool.false_eq_true, Bool.not_true, Bool.not_false, Int.reduceLT, Int.reduceLE, Int.reduceEq, kit_ii, kit_ib, kit_ll, kit_bb, kit_bi, kit_ss, kit_tt, kit_tl, kit_lt, kit_ls, kit_li, kit_lb, kit_is, kit_si, kit_sb, kit_ti, kit_tb, kit_ts]
        rw [List.map_cons, enumD, loop_c]
        show (some _).bind _ = _
        rw [bindS, kLp1_q]
        show (B_law_spaced_1 [a0, some (.p (.int m)), some (.p (.str (sg acc))), some (.p (.int ((0 : Nat) : Int))), some (.p (wD w))]).bind _ = _
        rw [hb, bindS, kLp2_n]
        exact ih
      · rw [t1, hn, toks_head, toks_word w1 w2]
        have := toks_end [] n
        rw [List.nil_append, toks_nil] at this
        rw [this]; rfl
    · have q0 : 0 ≤ m / (3 + (k : Int)) % 3 := Int.emod_nonneg _ (by omega)
      have q1 : m / (3 + (k : Int)) % 3 < 3 := Int.emod_lt_of_pos _ (by omega)
      obtain ⟨acc', b3, b4, ih, t1, t2⟩ := spaced_loop a0 m hm ws (k + 1) (acc ++ List.replicate (1 + m / (3 + (k : Int)) % 3).toNat 32 ++ w) (some (.p (.int (k : Int)))) (some (.p (wD w))) (fun x hx => hw x (by simp [hx])) (by omega) (by simp only [List.length_append, List.length_replicate]; omega) (fun h => by omega)
      refine ⟨acc', b3, b4, ?_, ?_, by rw [List.length_cons]; omega⟩
      · have m1 : gMulA (.str (sg [32])) (.int (1 + m / (3 + (k : Int)) % 3)) = some (.str (sg (List.replicate (1 + m / (3 + (k : Int)) % 3).toNat 32))) := by
          rw [gMulA_g (by omega) (by omega) (by simp; omega), fl]
        have g0 : gAdd (.str (sg acc)) (.str (sg (List.replicate (1 + m / (3 + (k : Int)) % 3).toNat 32))) = some (.str (sg (acc ++ List.replicate (1 + m / (3 + (k : Int)) % 3).toNat 32))) := gAdd_g (by rw [List.length_replicate]; omega)
        have g1 : gAdd (.str (sg (acc ++ List.replicate (1 + m / (3 + (k : Int)) % 3).toNat 32))) (.str (sg w)) = some (.str (sg (acc ++ List.replicate (1 + m / (3 + (k : Int)) % 3).toNat 32 ++ w))) := gAdd_g (by rw [List.length_append, List.length_replicate]; omega)
        have hb : B_law_spaced_1 [a0, some (.p (.int m)), some (.p (.str (sg acc))), some (.p (.int (k : Int))), some (.p (wD w))] = some (.nx, [a0, some (.p (.int m)), some (.p (.str (sg (acc ++ List.replicate (1 + m / (3 + (k : Int)) % 3).toNat 32 ++ w)))), some (.p (.int (k : Int))), some (.p (wD w))]) := by
          have z : (0 : Int) < (k : Int) := by omega
          unfold B_law_spaced_1
          simp (disch := omega) only [z, e32, m1, g0, g1, ↓reduceIte, and_self, bindS, mapS, eV_q, kV_p, kV_l, kV_t, eM_q, kM_s, eB_q, kB_s, eC_q, eW_q, kW_p, aN_q, aC_q, kAC_q, kCons_q, aMv_q, kMv_s, kMv2_q, kMv3_s, eL_q, kL_q, eT_q, kT_q, kP_q, kBl_q, kT2_q, eFz_q, kFz_q, eOp_q, kOp1_q, kOp2_q, eCmp_q, kCm1_q, kCm2_q, eNeg_q, kNeg_q, eChain_q, kCh1_q, kCh2_q, kCh3_q, cT_q, kcT_q, cNot_q, kNot_q, cAnd_q, kcAnd_t, kcAnd_f, cOr_q, kcOr_t, kcOr_f, eIf_q, keIf_t, keIf_f, eAnd_q, keAnd_t, keAnd_f, eOr_q, keOr_t, keOr_f, eNot_q, keNot_q, sIf_q, kcIf_t, kcIf_f, eB1_q, kB1_q, eI2_q, kI2_q, eIsi_q, kIsi_q, kLst_q, eList_q, kList_q, kTpl_q, eTuple_q, kTuple_q, eCall_q, kCall_q, kCall2_q, eCallB_q, kCallB_q, kCl_q, allP_n, allP_c, eIx_q, kIx1_q, kIx2_q, oN_q, oS_q, koS_q, eSl_q, kSl1_q, kSl2_q, kSl3_q, cutT_p, cutT_l, sNx_q, sBk_q, sCt_q, sRetN_q, sSeq_q, kSeq_n, kSeq_r, kSeq_b, kSeq_c, sRet_q, kRet_q, sSet_q, kSet_q, sDrop_q, kDrop_q, gNm_q, gEnd_q, gAnd_q, gTp_q, kTp_q, partsT_p, partsT_t, kNx_q, sAsg_q, kAsg_q, sFor_q, kFor_q, loop_n, loop_c, kLp1_q, kLp2_n, kLp2_c, kLp2_b, kLp2_r, iL_q, kiL_q, iTp_q, kiTp_q, iSg_q, kiSg_q, iR1_q, kR1_q, iR2_q, kR2_q, iEn_q, kEn_q, iZp_q, kZp_q, kZp_t, sForV_q, kForV_q, kForV1_q, kForV2_n, kForV2_r, atL_q, kAtL_q, sApp_q, kApp_q, kApp1_q, kApp2_q, sPut_q, kPut_q, kPut1_q, kPut2_q, kPut3_q, kPut4_q, kPutEnd_q, asI_q, sAugIx_q, kAx_q, kAx0_q, kAx1_q, kAx2_q, kAx3_q, kAx4_q, kAx5_q, kAx6_q, kAx7_q, kAx8_q, sAug_q, kAug_q, kAug2_q, kAug3_q, comp_n, comp_c, kCp1_q, kCp2_t, kCp2_f, kCp3_q, kCp4_q, eComp_q, kComp_q, kLs_q, cYes_q, wipe_n, wipe_c, eM1_q, kM11_q, kM12_q, eSplit_q, kSp1_q, kSp2_q, eJoin_q, kJn1_q, kJn2_q, kJn3_q, kJn4_q, eCat_q, kCt0_q, kCt1_q, kCt2_q, kCt3_pl, kCt3_ll, kCt3_lp, kCt3_pp, itemsT_p, itemsT_t, itemsT_ll, isLT_p, isLT_l, eDn_q, eDix_q, kDx1_q, kDx2_q, kDx3_q, kDx4_q, eDget_q, kDg1_q, kDg2_q, kDg3_q, kDg4_q, kDg5_q, eDin_q, kDi1_q, kDi2_q, kDi3_q, kDi4_t, kDi4_f, sPutD_q, kPd1_q, kPd2_q, kPd3_q, kPd4_q, kPd5_q, atD_q, kAtD_q, dicT_p, dicT_o, keyT_i, keyT_s, toD_d, kV_d, sForM_q, kForM_q, loopT_n, loopT_c, kLt1_q, kLt2_n, kLt2_r, eM0_q, kM0_q, iR3_q, runF_q, kRun_r, kRun_n, cutT_s, gStarts, gFind, startE, T.toDs, T.toD, cleanT, tyD, tyOk, List.length_cons, List.length_nil, List.length_map, List.map_cons, List.map_nil, List.replicate, List.cons_append, List.nil_append, List.getElem?_cons_zero, List.getElem?_cons_succ, List.set_cons_zero, List.set_cons_succ, Nat.reduceAdd, Nat.reduceSub, Nat.reduceLT, Nat.reduceLeDiff, Nat.zero_add, gAdd_i, gSub_i, gAddI_i, gMul_l, gMul_r, gDiv_i, gMod_i, gPow_i, cLt_i, cLe_i, cGt_i, cGe_i, eqQ_i, neQ_i, eqQ_g, neQ_g, eqQ_ints, neQ_ints, eqQ_b, neQ_b, inQ_g, notInQ_g, gLen_g, gStr_i, gStr_s, gSum_p, gSum_l, gLen_p, gLen_l, toD_l, toDs_p, allP_map, ixT_lst, ixT_pl, ixT_pt, ixT_sg, signsD_g, atI_0, atI_1, atI_2, atI_3, atI_4, atI_5, atI_6, ofS, sg_len, ifLe, ifLt, rng_len, decide_true, decide_false, Bool.false_eq_true, Bool.not_true, Bool.not_false, Int.reduceLT, Int.reduceLE, Int.reduceEq, kit_ii, kit_ib, kit_ll, kit_bb, kit_bi, kit_ss, kit_tt, kit_tl, kit_lt, kit_ls, kit_li, kit_lb, kit_is, kit_si, kit_sb, kit_ti, kit_tb, kit_ts]
        rw [List.map_cons, enumD, loop_c]
        show (some _).bind _ = _
        rw [bindS, kLp1_q]
        show (B_law_spaced_1 [a0, some (.p (.int m)), some (.p (.str (sg acc))), some (.p (.int (k : Int))), some (.p (wD w))]).bind _ = _
        rw [hb, bindS, kLp2_n]
        exact ih
      · rw [t1, toks_gap _ _ _ (by omega), toks_word w1 w2]; simp
theorem spaced_ok {ws : List (List Nat)} {m : Int} (hm : 0 ≤ m) (hw : ∀ w ∈ ws, 32 ∉ w ∧ w ≠ [] ∧ w.length ≤ 100) (hk : ws.length ≤ 100) : ∃ t, phi_law_spaced [.lst (ws.map wD), .int m] = some (.p (.str (sg t))) ∧ toks t = ws ∧ t.length ≤ 20000 := by
  have e32 : cod " " = [32] := by decide
  have fl : ∀ n : Nat, (List.replicate n [32]).flatten = List.replicate n 32 := fun n => by
    induction n with
    | zero => rfl
    | succ n ih => rw [List.replicate_succ, List.flatten_cons, ih]; rfl
  have m1 : gMulA (.str (sg [32])) (.int (m % 3)) = some (.str (sg (List.replicate (m % 3).toNat 32))) := by
    rw [gMulA_g (by omega) (by omega) (by simp; omega), fl]
  have m2 : gMulA (.str (sg [32])) (.int (m / 7 % 3)) = some (.str (sg (List.replicate (m / 7 % 3).toNat 32))) := by
    rw [gMulA_g (by omega) (by omega) (by simp; omega), fl]
  obtain ⟨acc', b3, b4, h, t1, t2⟩ := spaced_loop (some (.p (.lst (ws.map wD)))) m hm ws 0 (List.replicate (m % 3).toNat 32) none none hw (by omega) (by rw [List.length_replicate]; omega) (fun _ => ⟨_, rfl⟩)
  have g1 : gAdd (.str (sg acc')) (.str (sg (List.replicate (m / 7 % 3).toNat 32))) = some (.str (sg (acc' ++ List.replicate (m / 7 % 3).toNat 32))) := gAdd_g (by rw [List.length_replicate]; omega)
  refine ⟨acc' ++ List.replicate (m / 7 % 3).toNat 32, ?_, ?_, by rw [List.length_append, List.length_replicate]; omega⟩
  · unfold phi_law_spaced F_law_spaced
    simp (disch := omega) only [e32, m1, m2, h, g1, ↓reduceIte, and_self, bindS, mapS, eV_q, kV_p, kV_l, kV_t, eM_q, kM_s, eB_q, kB_s, eC_q, eW_q, kW_p, aN_q, aC_q, kAC_q, kCons_q, aMv_q, kMv_s, kMv2_q, kMv3_s, eL_q, kL_q, eT_q, kT_q, kP_q, kBl_q, kT2_q, eFz_q, kFz_q, eOp_q, kOp1_q, kOp2_q, eCmp_q, kCm1_q, kCm2_q, eNeg_q, kNeg_q, eChain_q, kCh1_q, kCh2_q, kCh3_q, cT_q, kcT_q, cNot_q, kNot_q, cAnd_q, kcAnd_t, kcAnd_f, cOr_q, kcOr_t, kcOr_f, eIf_q, keIf_t, keIf_f, eAnd_q, keAnd_t, keAnd_f, eOr_q, keOr_t, keOr_f, eNot_q, keNot_q, sIf_q, kcIf_t, kcIf_f, eB1_q, kB1_q, eI2_q, kI2_q, eIsi_q, kIsi_q, kLst_q, eList_q, kList_q, kTpl_q, eTuple_q, kTuple_q, eCall_q, kCall_q, kCall2_q, eCallB_q, kCallB_q, kCl_q, allP_n, allP_c, eIx_q, kIx1_q, kIx2_q, oN_q, oS_q, koS_q, eSl_q, kSl1_q, kSl2_q, kSl3_q, cutT_p, cutT_l, sNx_q, sBk_q, sCt_q, sRetN_q, sSeq_q, kSeq_n, kSeq_r, kSeq_b, kSeq_c, sRet_q, kRet_q, sSet_q, kSet_q, sDrop_q, kDrop_q, gNm_q, gEnd_q, gAnd_q, gTp_q, kTp_q, partsT_p, partsT_t, kNx_q, sAsg_q, kAsg_q, sFor_q, kFor_q, loop_n, loop_c, kLp1_q, kLp2_n, kLp2_c, kLp2_b, kLp2_r, iL_q, kiL_q, iTp_q, kiTp_q, iSg_q, kiSg_q, iR1_q, kR1_q, iR2_q, kR2_q, iEn_q, kEn_q, iZp_q, kZp_q, kZp_t, sForV_q, kForV_q, kForV1_q, kForV2_n, kForV2_r, atL_q, kAtL_q, sApp_q, kApp_q, kApp1_q, kApp2_q, sPut_q, kPut_q, kPut1_q, kPut2_q, kPut3_q, kPut4_q, kPutEnd_q, asI_q, sAugIx_q, kAx_q, kAx0_q, kAx1_q, kAx2_q, kAx3_q, kAx4_q, kAx5_q, kAx6_q, kAx7_q, kAx8_q, sAug_q, kAug_q, kAug2_q, kAug3_q, comp_n, comp_c, kCp1_q, kCp2_t, kCp2_f, kCp3_q, kCp4_q, eComp_q, kComp_q, kLs_q, cYes_q, wipe_n, wipe_c, eM1_q, kM11_q, kM12_q, eSplit_q, kSp1_q, kSp2_q, eJoin_q, kJn1_q, kJn2_q, kJn3_q, kJn4_q, eCat_q, kCt0_q, kCt1_q, kCt2_q, kCt3_pl, kCt3_ll, kCt3_lp, kCt3_pp, itemsT_p, itemsT_t, itemsT_ll, isLT_p, isLT_l, eDn_q, eDix_q, kDx1_q, kDx2_q, kDx3_q, kDx4_q, eDget_q, kDg1_q, kDg2_q, kDg3_q, kDg4_q, kDg5_q, eDin_q, kDi1_q, kDi2_q, kDi3_q, kDi4_t, kDi4_f, sPutD_q, kPd1_q, kPd2_q, kPd3_q, kPd4_q, kPd5_q, atD_q, kAtD_q, dicT_p, dicT_o, keyT_i, keyT_s, toD_d, kV_d, sForM_q, kForM_q, loopT_n, loopT_c, kLt1_q, kLt2_n, kLt2_r, eM0_q, kM0_q, iR3_q, runF_q, kRun_r, kRun_n, cutT_s, gStarts, gFind, startE, T.toDs, T.toD, cleanT, tyD, tyOk, List.length_cons, List.length_nil, List.length_map, List.map_cons, List.map_nil, List.replicate, List.cons_append, List.nil_append, List.getElem?_cons_zero, List.getElem?_cons_succ, List.set_cons_zero, List.set_cons_succ, Nat.reduceAdd, Nat.reduceSub, Nat.reduceLT, Nat.reduceLeDiff, Nat.zero_add, gAdd_i, gSub_i, gAddI_i, gMul_l, gMul_r, gDiv_i, gMod_i, gPow_i, cLt_i, cLe_i, cGt_i, cGe_i, eqQ_i, neQ_i, eqQ_g, neQ_g, eqQ_ints, neQ_ints, eqQ_b, neQ_b, inQ_g, notInQ_g, gLen_g, gStr_i, gStr_s, gSum_p, gSum_l, gLen_p, gLen_l, toD_l, toDs_p, allP_map, ixT_lst, ixT_pl, ixT_pt, ixT_sg, signsD_g, atI_0, atI_1, atI_2, atI_3, atI_4, atI_5, atI_6, ofS, sg_len, ifLe, ifLt, rng_len, decide_true, decide_false, Bool.false_eq_true, Bool.not_true, Bool.not_false, Int.reduceLT, Int.reduceLE, Int.reduceEq, kit_ii, kit_ib, kit_ll, kit_bb, kit_bi, kit_ss, kit_tt, kit_tl, kit_lt, kit_ls, kit_li, kit_lb, kit_is, kit_si, kit_sb, kit_ti, kit_tb, kit_ts]
  · rw [toks_end, t1]
    have := toks_end [] (m % 3).toNat
    rw [List.nil_append, toks_nil] at this
    rw [this]; rfl
end LW

set_option Elab.async false
set_option linter.all false
set_option maxRecDepth 100000
set_option maxHeartbeats 2000000
namespace LW
open PySem PySem.Spec PyProof.Rows L2 DL
theorem comp_signs (b : Nat) (a0 a1 a2 a4 a5 a6 a7 a8 a9 : Option T) : ∀ ds : List D, compD [10] (gNm 10) cYes (eV 3) ds [a0, a1, a2, some (.p (chr1 b)), a4, a5, a6, a7, a8, a9, none] = some (((List.replicate ds.length b).map chr1).map T.p, [a0, a1, a2, some (.p (chr1 b)), a4, a5, a6, a7, a8, a9, none])
  | [] => rfl
  | d :: ds => by
    have ih := comp_signs b a0 a1 a2 a4 a5 a6 a7 a8 a9 ds
    simp (disch := omega) only [ih, ↓reduceIte, and_self, bindS, mapS, eV_q, kV_p, kV_l, kV_t, eM_q, kM_s, eB_q, kB_s, eC_q, eW_q, kW_p, aN_q, aC_q, kAC_q, kCons_q, aMv_q, kMv_s, kMv2_q, kMv3_s, eL_q, kL_q, eT_q, kT_q, kP_q, kBl_q, kT2_q, eFz_q, kFz_q, eOp_q, kOp1_q, kOp2_q, eCmp_q, kCm1_q, kCm2_q, eNeg_q, kNeg_q, eChain_q, kCh1_q, kCh2_q, kCh3_q, cT_q, kcT_q, cNot_q, kNot_q, cAnd_q, kcAnd_t, kcAnd_f, cOr_q, kcOr_t, kcOr_f, eIf_q, keIf_t, keIf_f, eAnd_q, keAnd_t, keAnd_f, eOr_q, keOr_t, keOr_f, eNot_q, keNot_q, sIf_q, kcIf_t, kcIf_f, eB1_q, kB1_q, eI2_q, kI2_q, eIsi_q, kIsi_q, kLst_q, eList_q, kList_q, kTpl_q, eTuple_q, kTuple_q, eCall_q, kCall_q, kCall2_q, eCallB_q, kCallB_q, kCl_q, allP_n, allP_c, eIx_q, kIx1_q, kIx2_q, oN_q, oS_q, koS_q, eSl_q, kSl1_q, kSl2_q, kSl3_q, cutT_p, cutT_l, sNx_q, sBk_q, sCt_q, sRetN_q, sSeq_q, kSeq_n, kSeq_r, kSeq_b, kSeq_c, sRet_q, kRet_q, sSet_q, kSet_q, sDrop_q, kDrop_q, gNm_q, gEnd_q, gAnd_q, gTp_q, kTp_q, partsT_p, partsT_t, kNx_q, sAsg_q, kAsg_q, sFor_q, kFor_q, loop_n, loop_c, kLp1_q, kLp2_n, kLp2_c, kLp2_b, kLp2_r, iL_q, kiL_q, iTp_q, kiTp_q, iSg_q, kiSg_q, iR1_q, kR1_q, iR2_q, kR2_q, iEn_q, kEn_q, iZp_q, kZp_q, kZp_t, sForV_q, kForV_q, kForV1_q, kForV2_n, kForV2_r, atL_q, kAtL_q, sApp_q, kApp_q, kApp1_q, kApp2_q, sPut_q, kPut_q, kPut1_q, kPut2_q, kPut3_q, kPut4_q, kPutEnd_q, asI_q, sAugIx_q, kAx_q, kAx0_q, kAx1_q, kAx2_q, kAx3_q, kAx4_q, kAx5_q, kAx6_q, kAx7_q, kAx8_q, sAug_q, kAug_q, kAug2_q, kAug3_q, comp_n, comp_c, kCp1_q, kCp2_t, kCp2_f, kCp3_q, kCp4_q, eComp_q, kComp_q, kLs_q, cYes_q, wipe_n, wipe_c, eM1_q, kM11_q, kM12_q, eSplit_q, kSp1_q, kSp2_q, eJoin_q, kJn1_q, kJn2_q, kJn3_q, kJn4_q, eCat_q, kCt0_q, kCt1_q, kCt2_q, kCt3_pl, kCt3_ll, kCt3_lp, kCt3_pp, itemsT_p, itemsT_t, itemsT_ll, isLT_p, isLT_l, eDn_q, eDix_q, kDx1_q, kDx2_q, kDx3_q, kDx4_q, eDget_q, kDg1_q, kDg2_q, kDg3_q, kDg4_q, kDg5_q, eDin_q, kDi1_q, kDi2_q, kDi3_q, kDi4_t, kDi4_f, sPutD_q, kPd1_q, kPd2_q, kPd3_q, kPd4_q, kPd5_q, atD_q, kAtD_q, dicT_p, dicT_o, keyT_i, keyT_s, toD_d, kV_d, sForM_q, kForM_q, loopT_n, loopT_c, kLt1_q, kLt2_n, kLt2_r, eM0_q, kM0_q, iR3_q, runF_q, kRun_r, kRun_n, cutT_s, gStarts, gFind, startE, T.toDs, T.toD, cleanT, tyD, tyOk, List.length_cons, List.length_nil, List.length_map, List.map_cons, List.map_nil, List.replicate, List.cons_append, List.nil_append, List.getElem?_cons_zero, List.getElem?_cons_succ, List.set_cons_zero, List.set_cons_succ, Nat.reduceAdd, Nat.reduceSub, Nat.reduceLT, Nat.reduceLeDiff, Nat.zero_add, gAdd_i, gAdd_g, gSub_i, gAddI_i, gMul_l, gMul_r, gDiv_i, gMod_i, gPow_i, gMulA_g, cLt_i, cLe_i, cGt_i, cGe_i, eqQ_i, neQ_i, eqQ_g, neQ_g, eqQ_ints, neQ_ints, eqQ_b, neQ_b, inQ_g, notInQ_g, gLen_g, gStr_i, gStr_s, gSum_p, gSum_l, gLen_p, gLen_l, toD_l, toDs_p, allP_map, ixT_lst, ixT_pl, ixT_pt, ixT_sg, signsD_g, atI_0, atI_1, atI_2, atI_3, atI_4, atI_5, atI_6, ofS, sg_len, ifLe, ifLt, rng_len, decide_true, decide_false, Bool.false_eq_true, Bool.not_true, Bool.not_false, Int.reduceLT, Int.reduceLE, Int.reduceEq, kit_ii, kit_ib, kit_ll, kit_bb, kit_bi, kit_ss, kit_tt, kit_tl, kit_lt, kit_ls, kit_li, kit_lb, kit_is, kit_si, kit_sb, kit_ti, kit_tb, kit_ts]
    first | done | rfl
theorem flat1 : ∀ l : List Nat, (l.map fun c => [c]).flatten = l
  | [] => rfl
  | c :: l => by rw [List.map_cons, List.flatten_cons, flat1 l]; rfl
theorem set_signs (l : List Nat) (k c : Nat) : ((l.map chr1).map T.p).set k (T.p (.str (sg [c]))) = ((l.set k c).map chr1).map T.p := by
  rw [List.map_set, List.map_set]
theorem join_signs (l : List Nat) : strsD (l.map chr1) = some (l.map fun c => sg [c]) := by
  have := strsD_map (l.map fun c => sg [c])
  rwa [List.map_map] at this
theorem joinL_nil : ∀ ls : List (List Nat), TL.joinL [] ls = ls.flatten
  | [] => rfl
  | [p] => by simp [TL.joinL]
  | p :: q :: r => by
    show p ++ ([] ++ TL.joinL [] (q :: r)) = _
    rw [joinL_nil (q :: r)]; simp
theorem join_one (l : List Nat) : Txt.join (sg []) (l.map fun c => sg [c]) = sg l := by
  have := join_g [] (l.map fun c => [c])
  rw [List.map_map] at this
  rw [show (l.map fun c => sg [c]) = l.map (sg ∘ fun c => [c]) from rfl, this, joinL_nil, flat1]
theorem kJn4_one {e : DL.Env} {l : List Nat} (hl : l.length ≤ 1000) : kJn4 (sg []) e (l.map fun c => sg [c]) = some (.p (.str (sg l)), e) := by
  have h : ((l.map fun c => sg [c]).map (·.length)).sum + (l.map fun c => sg [c]).length * (sg []).length ≤ 16777216 := by
    rw [List.map_map, sg_len]
    have : (l.map ((fun x : Str => x.length) ∘ fun c => sg [c])).sum = l.length := by
      rw [show (l.map ((fun x : Str => x.length) ∘ fun c => sg [c])) = l.map fun _ => 1 by apply List.map_congr_left; intro c _; exact sg_len [c]]
      clear hl
      induction l with
      | nil => rfl
      | cons x l ih => rw [List.map_cons, List.sum_cons, ih, List.length_cons]; omega
    rw [this]; simp; omega
  rw [kJn4_q, if_pos h, join_one]
theorem ixN_i {n : Nat} {i : Int} (h0 : 0 ≤ i) (h1 : i < n) : ixN n i = some i.toNat := by
  unfold ixN
  rw [if_pos h0, if_pos h1]
def base : List Nat := cod "abcdefghijklmnpqrstuvwxyz"
def cons : List Nat := cod "bcdfghjklmnpqrstvwxz"
def nA (b : Nat) (many k : Int) : List Nat := List.replicate (many - k).toNat b
def nB (m size at' : Int) (b : Nat) (k : Int) : List Nat := ((List.replicate size.toNat b).set at'.toNat (cons.getD ((m / 4200 + 3 * k) % 20).toNat 0)).set ((at' + 1) % size).toNat (cons.getD ((m / 84000 + k / 20) % 20).toNat 0)
def nums (f : Int → List Nat) : Int → Nat → List (List Nat)
  | _, 0 => []
  | lo, n + 1 => f lo :: nums f (lo + 1) n
theorem nums_len (f : Int → List Nat) : ∀ (n : Nat) (lo : Int), (nums f lo n).length = n
  | 0, _ => rfl
  | n + 1, lo => by simp [nums, nums_len f n]
theorem nums_mem (f : Int → List Nat) : ∀ (n : Nat) (lo : Int) (l : List Nat), l ∈ nums f lo n → ∃ k, lo ≤ k ∧ k < lo + n ∧ l = f k
  | 0, _, l, h => by cases h
  | n + 1, lo, l, h => by
    rcases List.mem_cons.mp h with rfl | h
    · exact ⟨lo, by omega, by omega, rfl⟩
    · obtain ⟨k, h1, h2, h3⟩ := nums_mem f n (lo + 1) l h
      exact ⟨k, by omega, by omega, h3⟩
theorem comp_names (b : Nat) (a0 a2 a4 a6 a7 a8 a9 a10 : Option T) (many : Int) (hm : 0 ≤ many ∧ many ≤ 10) : ∀ (n : Nat) (lo : Int), 0 ≤ lo → lo + n ≤ many →
    compD [5] (gNm 5) cYes (eOp gMulA (eV 3) (eOp gSub (eV 1) (eV 5))) (rngD lo n) [a0, some (.p (.int many)), a2, some (.p (chr1 b)), a4, none, a6, a7, a8, a9, a10] = some (((nums (nA b many) lo n).map wD).map T.p, [a0, some (.p (.int many)), a2, some (.p (chr1 b)), a4, none, a6, a7, a8, a9, a10])
  | 0, lo, _, _ => rfl
  | n + 1, lo, h0, h1 => by
    have ih := comp_names b a0 a2 a4 a6 a7 a8 a9 a10 many hm n (lo + 1) (by omega) (by omega)
    have fl : ∀ n : Nat, (List.replicate n [b]).flatten = List.replicate n b := fun n => by
      induction n with
      | zero => rfl
      | succ n ih => rw [List.replicate_succ, List.flatten_cons, ih]; rfl
    have g : gMulA (.str (sg [b])) (.int (many - lo)) = some (.str (sg (nA b many lo))) := by
      rw [gMulA_g (by omega) (by omega) (by simp; omega), fl]; rfl
    rw [rngD_cons, show nums (nA b many) lo (n + 1) = nA b many lo :: nums (nA b many) (lo + 1) n from rfl]
    simp (disch := omega) only [ih, g, ↓reduceIte, and_self, bindS, mapS, eV_q, kV_p, kV_l, kV_t, eM_q, kM_s, eB_q, kB_s, eC_q, eW_q, kW_p, aN_q, aC_q, kAC_q, kCons_q, aMv_q, kMv_s, kMv2_q, kMv3_s, eL_q, kL_q, eT_q, kT_q, kP_q, kBl_q, kT2_q, eFz_q, kFz_q, eOp_q, kOp1_q, kOp2_q, eCmp_q, kCm1_q, kCm2_q, eNeg_q, kNeg_q, eChain_q, kCh1_q, kCh2_q, kCh3_q, cT_q, kcT_q, cNot_q, kNot_q, cAnd_q, kcAnd_t, kcAnd_f, cOr_q, kcOr_t, kcOr_f, eIf_q, keIf_t, keIf_f, eAnd_q, keAnd_t, keAnd_f, eOr_q, keOr_t, keOr_f, eNot_q, keNot_q, sIf_q, kcIf_t, kcIf_f, eB1_q, kB1_q, eI2_q, kI2_q, eIsi_q, kIsi_q, kLst_q, eList_q, kList_q, kTpl_q, eTuple_q, kTuple_q, eCall_q, kCall_q, kCall2_q, eCallB_q, kCallB_q, kCl_q, allP_n, allP_c, eIx_q, kIx1_q, kIx2_q, oN_q, oS_q, koS_q, eSl_q, kSl1_q, kSl2_q, kSl3_q, cutT_p, cutT_l, sNx_q, sBk_q, sCt_q, sRetN_q, sSeq_q, kSeq_n, kSeq_r, kSeq_b, kSeq_c, sRet_q, kRet_q, sSet_q, kSet_q, sDrop_q, kDrop_q, gNm_q, gEnd_q, gAnd_q, gTp_q, kTp_q, partsT_p, partsT_t, kNx_q, sAsg_q, kAsg_q, sFor_q, kFor_q, loop_n, loop_c, kLp1_q, kLp2_n, kLp2_c, kLp2_b, kLp2_r, iL_q, kiL_q, iTp_q, kiTp_q, iSg_q, kiSg_q, iR1_q, kR1_q, iR2_q, kR2_q, iEn_q, kEn_q, iZp_q, kZp_q, kZp_t, sForV_q, kForV_q, kForV1_q, kForV2_n, kForV2_r, atL_q, kAtL_q, sApp_q, kApp_q, kApp1_q, kApp2_q, sPut_q, kPut_q, kPut1_q, kPut2_q, kPut3_q, kPut4_q, kPutEnd_q, asI_q, sAugIx_q, kAx_q, kAx0_q, kAx1_q, kAx2_q, kAx3_q, kAx4_q, kAx5_q, kAx6_q, kAx7_q, kAx8_q, sAug_q, kAug_q, kAug2_q, kAug3_q, comp_n, comp_c, kCp1_q, kCp2_t, kCp2_f, kCp3_q, kCp4_q, eComp_q, kComp_q, kLs_q, cYes_q, wipe_n, wipe_c, eM1_q, kM11_q, kM12_q, eSplit_q, kSp1_q, kSp2_q, eJoin_q, kJn1_q, kJn2_q, kJn3_q, kJn4_q, eCat_q, kCt0_q, kCt1_q, kCt2_q, kCt3_pl, kCt3_ll, kCt3_lp, kCt3_pp, itemsT_p, itemsT_t, itemsT_ll, isLT_p, isLT_l, eDn_q, eDix_q, kDx1_q, kDx2_q, kDx3_q, kDx4_q, eDget_q, kDg1_q, kDg2_q, kDg3_q, kDg4_q, kDg5_q, eDin_q, kDi1_q, kDi2_q, kDi3_q, kDi4_t, kDi4_f, sPutD_q, kPd1_q, kPd2_q, kPd3_q, kPd4_q, kPd5_q, atD_q, kAtD_q, dicT_p, dicT_o, keyT_i, keyT_s, toD_d, kV_d, sForM_q, kForM_q, loopT_n, loopT_c, kLt1_q, kLt2_n, kLt2_r, eM0_q, kM0_q, iR3_q, runF_q, kRun_r, kRun_n, cutT_s, gStarts, gFind, startE, T.toDs, T.toD, cleanT, tyD, tyOk, List.length_cons, List.length_nil, List.length_map, List.map_cons, List.map_nil, List.replicate, List.cons_append, List.nil_append, List.getElem?_cons_zero, List.getElem?_cons_succ, List.set_cons_zero, List.set_cons_succ, Nat.reduceAdd, Nat.reduceSub, Nat.reduceLT, Nat.reduceLeDiff, Nat.zero_add, gAdd_i, gAdd_g, gSub_i, gAddI_i, gMul_l, gMul_r, gDiv_i, gMod_i, gPow_i, cLt_i, cLe_i, cGt_i, cGe_i, eqQ_i, neQ_i, eqQ_g, neQ_g, eqQ_ints, neQ_ints, eqQ_b, neQ_b, inQ_g, notInQ_g, gLen_g, gStr_i, gStr_s, gSum_p, gSum_l, gLen_p, gLen_l, toD_l, toDs_p, allP_map, ixT_lst, ixT_pl, ixT_pt, ixT_sg, signsD_g, atI_0, atI_1, atI_2, atI_3, atI_4, atI_5, atI_6, ofS, sg_len, ifLe, ifLt, rng_len, decide_true, decide_false, Bool.false_eq_true, Bool.not_true, Bool.not_false, Int.reduceLT, Int.reduceLE, Int.reduceEq, kit_ii, kit_ib, kit_ll, kit_bb, kit_bi, kit_ss, kit_tt, kit_tl, kit_lt, kit_ls, kit_li, kit_lb, kit_is, kit_si, kit_sb, kit_ti, kit_tb, kit_ts]
theorem names_body (a0 a1 : Option T) (m : Int) (b : Nat) (k size at' : Int) (L : List (List Nat)) (a9 : Option T) (hm : 0 ≤ m) (hk : 0 ≤ k) (hs : 2 ≤ size ∧ size ≤ 8) (ha : 0 ≤ at' ∧ at' < size) (hL : L.length ≤ 1000) :
    ∃ (a9' : Option T), B_law_names_1 [a0, a1, some (.p (.int m)), some (.p (chr1 b)), some (.p (.str (sg (cod "bcdfghjklmnpqrstvwxz")))), some (.p (.int k)), some (.p (.int size)), some (.p (.int at')), some (.lst ((L.map wD).map T.p)), a9, none] =
      some (.nx, [a0, a1, some (.p (.int m)), some (.p (chr1 b)), some (.p (.str (sg (cod "bcdfghjklmnpqrstvwxz")))), some (.p (.int k)), some (.p (.int size)), some (.p (.int at')), some (.lst (((L ++ [nB m size at' b k]).map wD).map T.p)), a9', none]) := by
  obtain ⟨s1, s2⟩ := hs
  obtain ⟨t1, t2⟩ := ha
  have e20 : (cod "bcdfghjklmnpqrstvwxz").length = 20 := by decide +kernel
  obtain ⟨c1, m1, h1, g1⟩ := atI_in (xs := cod "bcdfghjklmnpqrstvwxz") (i := (m / 4200 + 3 * k) % 20) (by omega) (by rw [e20]; omega)
  obtain ⟨c2, m2, h2, g2⟩ := atI_in (xs := cod "bcdfghjklmnpqrstvwxz") (i := (m / 84000 + k / 20) % 20) (by omega) (by rw [e20]; omega)
  have x1 : ixT (.p (.str (sg (cod "bcdfghjklmnpqrstvwxz")))) ((m / 4200 + 3 * k) % 20) = some (.p (.str (sg [c1]))) := by rw [ixT_sg (by omega), h1]; rfl
  have x2 : ixT (.p (.str (sg (cod "bcdfghjklmnpqrstvwxz")))) ((m / 84000 + k / 20) % 20) = some (.p (.str (sg [c2]))) := by rw [ixT_sg (by omega), h2]; rfl
  have d1 : cons.getD ((m / 4200 + 3 * k) % 20).toNat 0 = c1 := by rw [List.getD_eq_getElem?_getD]; unfold cons; rw [g1]; rfl
  have d2 : cons.getD ((m / 84000 + k / 20) % 20).toNat 0 = c2 := by rw [List.getD_eq_getElem?_getD]; unfold cons; rw [g2]; rfl
  have eB : nB m size at' b k = ((List.replicate size.toNat b).set at'.toNat c1).set ((at' + 1) % size).toNat c2 := by unfold nB; rw [d1, d2]
  have hc := comp_signs b a0 a1 (some (.p (.int m))) (some (.p (.str (sg (cod "bcdfghjklmnpqrstvwxz"))))) (some (.p (.int k))) (some (.p (.int size))) (some (.p (.int at'))) (some (.lst ((L.map wD).map T.p))) a9 (rngD 0 size.toNat)
  rw [rng_len] at hc
  have u0 : 0 ≤ (at' + 1) % size := Int.emod_nonneg _ (by omega)
  have u1 : (at' + 1) % size < size := Int.emod_lt_of_pos _ (by omega)
  have rl : (List.replicate size.toNat b).length = size.toNat := List.length_replicate
  have i1 : ixN (List.replicate size.toNat b).length at' = some at'.toNat := ixN_i t1 (by rw [rl]; omega)
  have i2 : ixN ((List.replicate size.toNat b).set at'.toNat c1).length ((at' + 1) % size) = some ((at' + 1) % size).toNat := ixN_i u0 (by rw [List.length_set, rl]; omega)
  have e0 : cod "" = [] := by decide
  rw [eB]
  refine ⟨some (.lst (((((List.replicate size.toNat b).set at'.toNat c1).set ((at' + 1) % size).toNat c2).map chr1).map T.p)), ?_⟩
  have hj := fun e => kJn4_one (e := e) (l := ((List.replicate size.toNat b).set at'.toNat c1).set ((at' + 1) % size).toNat c2) (by rw [List.length_set, List.length_set, rl]; omega)
  have hs0 : (L.map wD).length < 16000000 := by rw [List.length_map]; omega
  unfold B_law_names_1
  simp (disch := omega) only [hc, x1, x2, set_signs, i1, i2, join_signs, e0, hj, ↓reduceIte, and_self, bindS, mapS, eV_q, kV_p, kV_l, kV_t, eM_q, kM_s, eB_q, kB_s, eC_q, eW_q, kW_p, aN_q, aC_q, kAC_q, kCons_q, aMv_q, kMv_s, kMv2_q, kMv3_s, eL_q, kL_q, eT_q, kT_q, kP_q, kBl_q, kT2_q, eFz_q, kFz_q, eOp_q, kOp1_q, kOp2_q, eCmp_q, kCm1_q, kCm2_q, eNeg_q, kNeg_q, eChain_q, kCh1_q, kCh2_q, kCh3_q, cT_q, kcT_q, cNot_q, kNot_q, cAnd_q, kcAnd_t, kcAnd_f, cOr_q, kcOr_t, kcOr_f, eIf_q, keIf_t, keIf_f, eAnd_q, keAnd_t, keAnd_f, eOr_q, keOr_t, keOr_f, eNot_q, keNot_q, sIf_q, kcIf_t, kcIf_f, eB1_q, kB1_q, eI2_q, kI2_q, eIsi_q, kIsi_q, kLst_q, eList_q, kList_q, kTpl_q, eTuple_q, kTuple_q, eCall_q, kCall_q, kCall2_q, eCallB_q, kCallB_q, kCl_q, allP_n, allP_c, eIx_q, kIx1_q, kIx2_q, oN_q, oS_q, koS_q, eSl_q, kSl1_q, kSl2_q, kSl3_q, cutT_p, cutT_l, sNx_q, sBk_q, sCt_q, sRetN_q, sSeq_q, kSeq_n, kSeq_r, kSeq_b, kSeq_c, sRet_q, kRet_q, sSet_q, kSet_q, sDrop_q, kDrop_q, gNm_q, gEnd_q, gAnd_q, gTp_q, kTp_q, partsT_p, partsT_t, kNx_q, sAsg_q, kAsg_q, sFor_q, kFor_q, loop_n, loop_c, kLp1_q, kLp2_n, kLp2_c, kLp2_b, kLp2_r, iL_q, kiL_q, iTp_q, kiTp_q, iSg_q, kiSg_q, iR1_q, kR1_q, iR2_q, kR2_q, iEn_q, kEn_q, iZp_q, kZp_q, kZp_t, sForV_q, kForV_q, kForV1_q, kForV2_n, kForV2_r, atL_q, kAtL_q, sApp_q, kApp_q, kApp1_q, kApp2_q, sPut_q, kPut_q, kPut1_q, kPut2_q, kPut3_q, kPut4_q, kPutEnd_q, asI_q, sAugIx_q, kAx_q, kAx0_q, kAx1_q, kAx2_q, kAx3_q, kAx4_q, kAx5_q, kAx6_q, kAx7_q, kAx8_q, sAug_q, kAug_q, kAug2_q, kAug3_q, comp_n, comp_c, kCp1_q, kCp2_t, kCp2_f, kCp3_q, kCp4_q, eComp_q, kComp_q, kLs_q, cYes_q, wipe_n, wipe_c, eM1_q, kM11_q, kM12_q, eSplit_q, kSp1_q, kSp2_q, eJoin_q, kJn1_q, kJn2_q, kJn3_q, eCat_q, kCt0_q, kCt1_q, kCt2_q, kCt3_pl, kCt3_ll, kCt3_lp, kCt3_pp, itemsT_p, itemsT_t, itemsT_ll, isLT_p, isLT_l, eDn_q, eDix_q, kDx1_q, kDx2_q, kDx3_q, kDx4_q, eDget_q, kDg1_q, kDg2_q, kDg3_q, kDg4_q, kDg5_q, eDin_q, kDi1_q, kDi2_q, kDi3_q, kDi4_t, kDi4_f, sPutD_q, kPd1_q, kPd2_q, kPd3_q, kPd4_q, kPd5_q, atD_q, kAtD_q, dicT_p, dicT_o, keyT_i, keyT_s, toD_d, kV_d, sForM_q, kForM_q, loopT_n, loopT_c, kLt1_q, kLt2_n, kLt2_r, eM0_q, kM0_q, iR3_q, runF_q, kRun_r, kRun_n, cutT_s, gStarts, gFind, startE, T.toDs, T.toD, cleanT, tyD, tyOk, List.length_cons, List.length_nil, List.length_map, List.map_cons, List.map_nil, List.replicate, List.cons_append, List.nil_append, List.getElem?_cons_zero, List.getElem?_cons_succ, List.set_cons_zero, List.set_cons_succ, Nat.reduceAdd, Nat.reduceSub, Nat.reduceLT, Nat.reduceLeDiff, Nat.zero_add, gAdd_i, gAdd_g, gSub_i, gAddI_i, gMul_l, gMul_r, gDiv_i, gMod_i, gPow_i, gMulA_g, cLt_i, cLe_i, cGt_i, cGe_i, eqQ_i, neQ_i, eqQ_g, neQ_g, eqQ_ints, neQ_ints, eqQ_b, neQ_b, inQ_g, notInQ_g, gLen_g, gStr_i, gStr_s, gSum_p, gSum_l, gLen_p, gLen_l, toD_l, toDs_p, allP_map, ixT_lst, ixT_pl, ixT_pt, ixT_sg, signsD_g, atI_0, atI_1, atI_2, atI_3, atI_4, atI_5, atI_6, ofS, ifLe, ifLt, rng_len, decide_true, decide_false, Bool.false_eq_true, Bool.not_true, Bool.not_false, Int.reduceLT, Int.reduceLE, Int.reduceEq, kit_ii, kit_ib, kit_ll, kit_bb, kit_bi, kit_ss, kit_tt, kit_tl, kit_lt, kit_ls, kit_li, kit_lb, kit_is, kit_si, kit_sb, kit_ti, kit_tb, kit_ts]
  simp
theorem names_loop (a0 a1 : Option T) (m : Int) (b : Nat) (size at' : Int) (hm : 0 ≤ m) (hs : 2 ≤ size ∧ size ≤ 8) (ha : 0 ≤ at' ∧ at' < size) :
    ∀ (n : Nat) (lo : Int) (L : List (List Nat)) (a5 a9 : Option T), 0 ≤ lo → L.length + n ≤ 900 → ∃ (a5' a9' : Option T),
      loopD (gNm 5) B_law_names_1 (rngD lo n) [a0, a1, some (.p (.int m)), some (.p (chr1 b)), some (.p (.str (sg (cod "bcdfghjklmnpqrstvwxz")))), a5, some (.p (.int size)), some (.p (.int at')), some (.lst ((L.map wD).map T.p)), a9, none] =
      some (.nx, [a0, a1, some (.p (.int m)), some (.p (chr1 b)), some (.p (.str (sg (cod "bcdfghjklmnpqrstvwxz")))), a5', some (.p (.int size)), some (.p (.int at')), some (.lst (((L ++ nums (nB m size at' b) lo n).map wD).map T.p)), a9', none])
  | 0, lo, L, a5, a9, _, _ => ⟨a5, a9, by rw [show nums (nB m size at' b) lo 0 = [] from rfl, List.append_nil]; rfl⟩
  | n + 1, lo, L, a5, a9, h0, hl => by
    obtain ⟨a9', hb'⟩ := names_body a0 a1 m b lo size at' L a9 hm h0 hs ha (by omega)
    obtain ⟨a5', a9'', ih⟩ := names_loop a0 a1 m b size at' hm hs ha n (lo + 1) (L ++ [nB m size at' b lo]) (some (.p (.int lo))) a9' (by omega) (by simp; omega)
    refine ⟨a5', a9'', ?_⟩
    rw [rngD_cons, loop_c]
    show (some _).bind _ = _
    rw [bindS, kLp1_q]
    show (B_law_names_1 [a0, a1, some (.p (.int m)), some (.p (chr1 b)), some (.p (.str (sg (cod "bcdfghjklmnpqrstvwxz")))), some (.p (.int lo)), some (.p (.int size)), some (.p (.int at')), some (.lst ((L.map wD).map T.p)), a9, none]).bind _ = _
    rw [hb', bindS, kLp2_n, ih]
    rw [List.append_assoc]; rfl
/-- the names that are drawn -/
def namesL (c many : Int) : List (List Nat) :=
  if mixed c 3 / 25 % 3 = 0 ∧ many < 9 then nums (nA (base.getD (mixed c 3 % 25).toNat 0) many) 0 many.toNat
  else nums (nB (mixed c 3) (2 + mixed c 3 / 75 % 7) (mixed c 3 / 525 % (2 + mixed c 3 / 75 % 7)) (base.getD (mixed c 3 % 25).toNat 0)) 0 many.toNat
theorem namesL_len (c many : Int) : (namesL c many).length = many.toNat := by
  unfold namesL
  split <;> exact nums_len _ _ _
theorem names_ok (c many : Int) (hm : 0 ≤ many ∧ many ≤ 800) : phi_law_names [.int c, .int many] = some (.lst (((namesL c many).map wD).map T.p)) := by
  obtain ⟨y1, y2⟩ := hm
  have m1 := mixed_ok c 3 (by omega)
  have mr := (mixed_range c 3).1
  have e25 : (cod "abcdefghijklmnpqrstuvwxyz").length = 25 := by decide +kernel
  obtain ⟨b, mb, hb, gb⟩ := atI_in (xs := cod "abcdefghijklmnpqrstuvwxyz") (i := mixed c 3 % 25) (by omega) (by rw [e25]; omega)
  have db : base.getD (mixed c 3 % 25).toNat 0 = b := by rw [List.getD_eq_getElem?_getD]; unfold base; rw [gb]; rfl
  have x1 : ixT (.p (.str (sg (cod "abcdefghijklmnpqrstuvwxyz")))) (mixed c 3 % 25) = some (.p (.str (sg [b]))) := by rw [ixT_sg (by omega), hb]; rfl
  unfold namesL
  rw [db]
  by_cases k : mixed c 3 / 25 % 3 = 0 ∧ many < 9
  · rw [if_pos k]
    obtain ⟨k1, k2⟩ := k
    have h3 := comp_names b (some (.p (.int c))) (some (.p (.int (mixed c 3)))) (some (.p (.str (sg (cod "bcdfghjklmnpqrstvwxz"))))) none none none none none many (by omega) many.toNat 0 (by omega) (by omega)
    unfold phi_law_names F_law_names
    simp (disch := omega) only [m1, x1, k1, k2, h3, ↓reduceIte, and_self, bindS, mapS, eV_q, kV_p, kV_l, kV_t, eM_q, kM_s, eB_q, kB_s, eC_q, eW_q, kW_p, aN_q, aC_q, kAC_q, kCons_q, aMv_q, kMv_s, kMv2_q, kMv3_s, eL_q, kL_q, eT_q, kT_q, kP_q, kBl_q, kT2_q, eFz_q, kFz_q, eOp_q, kOp1_q, kOp2_q, eCmp_q, kCm1_q, kCm2_q, eNeg_q, kNeg_q, eChain_q, kCh1_q, kCh2_q, kCh3_q, cT_q, kcT_q, cNot_q, kNot_q, cAnd_q, kcAnd_t, kcAnd_f, cOr_q, kcOr_t, kcOr_f, eIf_q, keIf_t, keIf_f, eAnd_q, keAnd_t, keAnd_f, eOr_q, keOr_t, keOr_f, eNot_q, keNot_q, sIf_q, kcIf_t, kcIf_f, eB1_q, kB1_q, eI2_q, kI2_q, eIsi_q, kIsi_q, kLst_q, eList_q, kList_q, kTpl_q, eTuple_q, kTuple_q, eCall_q, kCall_q, kCall2_q, eCallB_q, kCallB_q, kCl_q, allP_n, allP_c, eIx_q, kIx1_q, kIx2_q, oN_q, oS_q, koS_q, eSl_q, kSl1_q, kSl2_q, kSl3_q, cutT_p, cutT_l, sNx_q, sBk_q, sCt_q, sRetN_q, sSeq_q, kSeq_n, kSeq_r, kSeq_b, kSeq_c, sRet_q, kRet_q, sSet_q, kSet_q, sDrop_q, kDrop_q, gNm_q, gEnd_q, gAnd_q, gTp_q, kTp_q, partsT_p, partsT_t, kNx_q, sAsg_q, kAsg_q, sFor_q, kFor_q, loop_n, loop_c, kLp1_q, kLp2_n, kLp2_c, kLp2_b, kLp2_r, iL_q, kiL_q, iTp_q, kiTp_q, iSg_q, kiSg_q, iR1_q, kR1_q, iR2_q, kR2_q, iEn_q, kEn_q, iZp_q, kZp_q, kZp_t, sForV_q, kForV_q, kForV1_q, kForV2_n, kForV2_r, atL_q, kAtL_q, sApp_q, kApp_q, kApp1_q, kApp2_q, sPut_q, kPut_q, kPut1_q, kPut2_q, kPut3_q, kPut4_q, kPutEnd_q, asI_q, sAugIx_q, kAx_q, kAx0_q, kAx1_q, kAx2_q, kAx3_q, kAx4_q, kAx5_q, kAx6_q, kAx7_q, kAx8_q, sAug_q, kAug_q, kAug2_q, kAug3_q, comp_n, comp_c, kCp1_q, kCp2_t, kCp2_f, kCp3_q, kCp4_q, eComp_q, kComp_q, kLs_q, cYes_q, wipe_n, wipe_c, eM1_q, kM11_q, kM12_q, eSplit_q, kSp1_q, kSp2_q, eJoin_q, kJn1_q, kJn2_q, kJn3_q, kJn4_q, eCat_q, kCt0_q, kCt1_q, kCt2_q, kCt3_pl, kCt3_ll, kCt3_lp, kCt3_pp, itemsT_p, itemsT_t, itemsT_ll, isLT_p, isLT_l, eDn_q, eDix_q, kDx1_q, kDx2_q, kDx3_q, kDx4_q, eDget_q, kDg1_q, kDg2_q, kDg3_q, kDg4_q, kDg5_q, eDin_q, kDi1_q, kDi2_q, kDi3_q, kDi4_t, kDi4_f, sPutD_q, kPd1_q, kPd2_q, kPd3_q, kPd4_q, kPd5_q, atD_q, kAtD_q, dicT_p, dicT_o, keyT_i, keyT_s, toD_d, kV_d, sForM_q, kForM_q, loopT_n, loopT_c, kLt1_q, kLt2_n, kLt2_r, eM0_q, kM0_q, iR3_q, runF_q, kRun_r, kRun_n, cutT_s, gStarts, gFind, startE, T.toDs, T.toD, cleanT, tyD, tyOk, List.length_cons, List.length_nil, List.length_map, List.map_cons, List.map_nil, List.replicate, List.cons_append, List.nil_append, List.getElem?_cons_zero, List.getElem?_cons_succ, List.set_cons_zero, List.set_cons_succ, Nat.reduceAdd, Nat.reduceSub, Nat.reduceLT, Nat.reduceLeDiff, Nat.zero_add, gAdd_i, gAdd_g, gSub_i, gAddI_i, gMul_l, gMul_r, gDiv_i, gMod_i, gPow_i, gMulA_g, cLt_i, cLe_i, cGt_i, cGe_i, eqQ_i, neQ_i, eqQ_g, neQ_g, eqQ_ints, neQ_ints, eqQ_b, neQ_b, inQ_g, notInQ_g, gLen_g, gStr_i, gStr_s, gSum_p, gSum_l, gLen_p, gLen_l, toD_l, toDs_p, allP_map, ixT_lst, ixT_pl, ixT_pt, ixT_sg, signsD_g, atI_0, atI_1, atI_2, atI_3, atI_4, atI_5, atI_6, ofS, sg_len, ifLe, ifLt, rng_len, decide_true, decide_false, Bool.false_eq_true, Bool.not_true, Bool.not_false, Int.reduceLT, Int.reduceLE, Int.reduceEq, kit_ii, kit_ib, kit_ll, kit_bb, kit_bi, kit_ss, kit_tt, kit_tl, kit_lt, kit_ls, kit_li, kit_lb, kit_is, kit_si, kit_sb, kit_ti, kit_tb, kit_ts]
  · rw [if_neg k]
    have u0 : 0 ≤ mixed c 3 / 525 % (2 + mixed c 3 / 75 % 7) := Int.emod_nonneg _ (by omega)
    have u1 : mixed c 3 / 525 % (2 + mixed c 3 / 75 % 7) < 2 + mixed c 3 / 75 % 7 := Int.emod_lt_of_pos _ (by omega)
    obtain ⟨a5, a9, h3⟩ := names_loop (some (.p (.int c))) (some (.p (.int many))) (mixed c 3) b (2 + mixed c 3 / 75 % 7) (mixed c 3 / 525 % (2 + mixed c 3 / 75 % 7)) mr (by omega) ⟨u0, u1⟩ many.toNat 0 [] none none (by omega) (by simp; omega)
    rw [show (([] : List (List Nat)).map wD).map T.p = [] from rfl, List.nil_append] at h3
    unfold phi_law_names F_law_names
    by_cases k1 : mixed c 3 / 25 % 3 = 0
    · have k2 : ¬ many < 9 := fun h => k ⟨k1, h⟩
      simp (disch := omega) only [m1, x1, k1, k2, h3, ↓reduceIte, and_self, bindS, mapS, eV_q, kV_p, kV_l, kV_t, eM_q, kM_s, eB_q, kB_s, eC_q, eW_q, kW_p, aN_q, aC_q, kAC_q, kCons_q, aMv_q, kMv_s, kMv2_q, kMv3_s, eL_q, kL_q, eT_q, kT_q, kP_q, kBl_q, kT2_q, eFz_q, kFz_q, eOp_q, kOp1_q, kOp2_q, eCmp_q, kCm1_q, kCm2_q, eNeg_q, kNeg_q, eChain_q, kCh1_q, kCh2_q, kCh3_q, cT_q, kcT_q, cNot_q, kNot_q, cAnd_q, kcAnd_t, kcAnd_f, cOr_q, kcOr_t, kcOr_f, eIf_q, keIf_t, keIf_f, eAnd_q, keAnd_t, keAnd_f, eOr_q, keOr_t, keOr_f, eNot_q, keNot_q, sIf_q, kcIf_t, kcIf_f, eB1_q, kB1_q, eI2_q, kI2_q, eIsi_q, kIsi_q, kLst_q, eList_q, kList_q, kTpl_q, eTuple_q, kTuple_q, eCall_q, kCall_q, kCall2_q, eCallB_q, kCallB_q, kCl_q, allP_n, allP_c, eIx_q, kIx1_q, kIx2_q, oN_q, oS_q, koS_q, eSl_q, kSl1_q, kSl2_q, kSl3_q, cutT_p, cutT_l, sNx_q, sBk_q, sCt_q, sRetN_q, sSeq_q, kSeq_n, kSeq_r, kSeq_b, kSeq_c, sRet_q, kRet_q, sSet_q, kSet_q, sDrop_q, kDrop_q, gNm_q, gEnd_q, gAnd_q, gTp_q, kTp_q, partsT_p, partsT_t, kNx_q, sAsg_q, kAsg_q, sFor_q, kFor_q, loop_n, loop_c, kLp1_q, kLp2_n, kLp2_c, kLp2_b, kLp2_r, iL_q, kiL_q, iTp_q, kiTp_q, iSg_q, kiSg_q, iR1_q, kR1_q, iR2_q, kR2_q, iEn_q, kEn_q, iZp_q, kZp_q, kZp_t, sForV_q, kForV_q, kForV1_q, kForV2_n, kForV2_r, atL_q, kAtL_q, sApp_q, kApp_q, kApp1_q, kApp2_q, sPut_q, kPut_q, kPut1_q, kPut2_q, kPut3_q, kPut4_q, kPutEnd_q, asI_q, sAugIx_q, kAx_q, kAx0_q, kAx1_q, kAx2_q, kAx3_q, kAx4_q, kAx5_q, kAx6_q, kAx7_q, kAx8_q, sAug_q, kAug_q, kAug2_q, kAug3_q, comp_n, comp_c, kCp1_q, kCp2_t, kCp2_f, kCp3_q, kCp4_q, eComp_q, kComp_q, kLs_q, cYes_q, wipe_n, wipe_c, eM1_q, kM11_q, kM12_q, eSplit_q, kSp1_q, kSp2_q, eJoin_q, kJn1_q, kJn2_q, kJn3_q, kJn4_q, eCat_q, kCt0_q, kCt1_q, kCt2_q, kCt3_pl, kCt3_ll, kCt3_lp, kCt3_pp, itemsT_p, itemsT_t, itemsT_ll, isLT_p, isLT_l, eDn_q, eDix_q, kDx1_q, kDx2_q, kDx3_q, kDx4_q, eDget_q, kDg1_q, kDg2_q, kDg3_q, kDg4_q, kDg5_q, eDin_q, kDi1_q, kDi2_q, kDi3_q, kDi4_t, kDi4_f, sPutD_q, kPd1_q, kPd2_q, kPd3_q, kPd4_q, kPd5_q, atD_q, kAtD_q, dicT_p, dicT_o, keyT_i, keyT_s, toD_d, kV_d, sForM_q, kForM_q, loopT_n, loopT_c, kLt1_q, kLt2_n, kLt2_r, eM0_q, kM0_q, iR3_q, runF_q, kRun_r, kRun_n, cutT_s, gStarts, gFind, startE, T.toDs, T.toD, cleanT, tyD, tyOk, List.length_cons, List.length_nil, List.length_map, List.map_cons, List.map_nil, List.replicate, List.cons_append, List.nil_append, List.getElem?_cons_zero, List.getElem?_cons_succ, List.set_cons_zero, List.set_cons_succ, Nat.reduceAdd, Nat.reduceSub, Nat.reduceLT, Nat.reduceLeDiff, Nat.zero_add, gAdd_i, gAdd_g, gSub_i, gAddI_i, gMul_l, gMul_r, gDiv_i, gMod_i, gPow_i, gMulA_g, cLt_i, cLe_i, cGt_i, cGe_i, eqQ_i, neQ_i, eqQ_g, neQ_g, eqQ_ints, neQ_ints, eqQ_b, neQ_b, inQ_g, notInQ_g, gLen_g, gStr_i, gStr_s, gSum_p, gSum_l, gLen_p, gLen_l, toD_l, toDs_p, allP_map, ixT_lst, ixT_pl, ixT_pt, ixT_sg, signsD_g, atI_0, atI_1, atI_2, atI_3, atI_4, atI_5, atI_6, ofS, sg_len, ifLe, ifLt, rng_len, decide_true, decide_false, Bool.false_eq_true, Bool.not_true, Bool.not_false, Int.reduceLT, Int.reduceLE, Int.reduceEq, kit_ii, kit_ib, kit_ll, kit_bb, kit_bi, kit_ss, kit_tt, kit_tl, kit_lt, kit_ls, kit_li, kit_lb, kit_is, kit_si, kit_sb, kit_ti, kit_tb, kit_ts]
    · simp (disch := omega) only [m1, x1, k1, h3, ↓reduceIte, and_self, bindS, mapS, eV_q, kV_p, kV_l, kV_t, eM_q, kM_s, eB_q, kB_s, eC_q, eW_q, kW_p, aN_q, aC_q, kAC_q, kCons_q, aMv_q, kMv_s, kMv2_q, kMv3_s, eL_q, kL_q, eT_q, kT_q, kP_q, kBl_q, kT2_q, eFz_q, kFz_q, eOp_q, kOp1_q, kOp2_q, eCmp_q, kCm1_q, kCm2_q, eNeg_q, kNeg_q, eChain_q, kCh1_q, kCh2_q, kCh3_q, cT_q, kcT_q, cNot_q, kNot_q, cAnd_q, kcAnd_t, kcAnd_f, cOr_q, kcOr_t, kcOr_f, eIf_q, keIf_t, keIf_f, eAnd_q, keAnd_t, keAnd_f, eOr_q, keOr_t, keOr_f, eNot_q, keNot_q, sIf_q, kcIf_t, kcIf_f, eB1_q, kB1_q, eI2_q, kI2_q, eIsi_q, kIsi_q, kLst_q, eList_q, kList_q, kTpl_q, eTuple_q, kTuple_q, eCall_q, kCall_q, kCall2_q, eCallB_q, kCallB_q, kCl_q, allP_n, allP_c, eIx_q, kIx1_q, kIx2_q, oN_q, oS_q, koS_q, eSl_q, kSl1_q, kSl2_q, kSl3_q, cutT_p, cutT_l, sNx_q, sBk_q, sCt_q, sRetN_q, sSeq_q, kSeq_n, kSeq_r, kSeq_b, kSeq_c, sRet_q, kRet_q, sSet_q, kSet_q, sDrop_q, kDrop_q, gNm_q, gEnd_q, gAnd_q, gTp_q, kTp_q, partsT_p, partsT_t, kNx_q, sAsg_q, kAsg_q, sFor_q, kFor_q, loop_n, loop_c, kLp1_q, kLp2_n, kLp2_c, kLp2_b, kLp2_r, iL_q, kiL_q, iTp_q, kiTp_q, iSg_q, kiSg_q, iR1_q, kR1_q, iR2_q, kR2_q, iEn_q, kEn_q, iZp_q, kZp_q, kZp_t, sForV_q, kForV_q, kForV1_q, kForV2_n, kForV2_r, atL_q, kAtL_q, sApp_q, kApp_q, kApp1_q, kApp2_q, sPut_q, kPut_q, kPut1_q, kPut2_q, kPut3_q, kPut4_q, kPutEnd_q, asI_q, sAugIx_q, kAx_q, kAx0_q, kAx1_q, kAx2_q, kAx3_q, kAx4_q, kAx5_q, kAx6_q, kAx7_q, kAx8_q, sAug_q, kAug_q, kAug2_q, kAug3_q, comp_n, comp_c, kCp1_q, kCp2_t, kCp2_f, kCp3_q, kCp4_q, eComp_q, kComp_q, kLs_q, cYes_q, wipe_n, wipe_c, eM1_q, kM11_q, kM12_q, eSplit_q, kSp1_q, kSp2_q, eJoin_q, kJn1_q, kJn2_q, kJn3_q, kJn4_q, eCat_q, kCt0_q, kCt1_q, kCt2_q, kCt3_pl, kCt3_ll, kCt3_lp, kCt3_pp, itemsT_p, itemsT_t, itemsT_ll, isLT_p, isLT_l, eDn_q, eDix_q, kDx1_q, kDx2_q, kDx3_q, kDx4_q, eDget_q, kDg1_q, kDg2_q, kDg3_q, kDg4_q, kDg5_q, eDin_q, kDi1_q, kDi2_q, kDi3_q, kDi4_t, kDi4_f, sPutD_q, kPd1_q, kPd2_q, kPd3_q, kPd4_q, kPd5_q, atD_q, kAtD_q, dicT_p, dicT_o, keyT_i, keyT_s, toD_d, kV_d, sForM_q, kForM_q, loopT_n, loopT_c, kLt1_q, kLt2_n, kLt2_r, eM0_q, kM0_q, iR3_q, runF_q, kRun_r, kRun_n, cutT_s, gStarts, gFind, startE, T.toDs, T.toD, cleanT, tyD, tyOk, List.length_cons, List.length_nil, List.length_map, List.map_cons, List.map_nil, List.replicate, List.cons_append, List.nil_append, List.getElem?_cons_zero, List.getElem?_cons_succ, List.set_cons_zero, List.set_cons_succ, Nat.reduceAdd, Nat.reduceSub, Nat.reduceLT, Nat.reduceLeDiff, Nat.zero_add, gAdd_i, gAdd_g, gSub_i, gAddI_i, gMul_l, gMul_r, gDiv_i, gMod_i, gPow_i, gMulA_g, cLt_i, cLe_i, cGt_i, cGe_i, eqQ_i, neQ_i, eqQ_g, neQ_g, eqQ_ints, neQ_ints, eqQ_b, neQ_b, inQ_g, notInQ_g, gLen_g, gStr_i, gStr_s, gSum_p, gSum_l, gLen_p, gLen_l, toD_l, toDs_p, allP_map, ixT_lst, ixT_pl, ixT_pt, ixT_sg, signsD_g, atI_0, atI_1, atI_2, atI_3, atI_4, atI_5, atI_6, ofS, sg_len, ifLe, ifLt, rng_len, decide_true, decide_false, Bool.false_eq_true, Bool.not_true, Bool.not_false, Int.reduceLT, Int.reduceLE, Int.reduceEq, kit_ii, kit_ib, kit_ll, kit_bb, kit_bi, kit_ss, kit_tt, kit_tl, kit_lt, kit_ls, kit_li, kit_lb, kit_is, kit_si, kit_sb, kit_ti, kit_tb, kit_ts]
end LW

set_option Elab.async false
set_option linter.all false
set_option maxRecDepth 100000
set_option maxHeartbeats 2000000
namespace LW
open PySem PySem.Spec PyProof.Rows L2 DL
/-- l is b but at two neighbouring places, where consonants stand -/
def nearly (l : List Nat) (b at' : Nat) : Bool := (List.range l.length).all (fun i => i == at' || i == (at' + 1) % l.length || l[i]? == some b) && (l[at']?).any (fun c => decide (c ∈ cons)) && (l[(at' + 1) % l.length]?).any (fun c => decide (c ∈ cons))
theorem kwA : ∀ s ∈ ks, ∀ b ∈ base, (s.cps.toList.all (· == b)) = false := by decide +kernel
theorem kwB : ∀ s ∈ ks, ∀ b ∈ base, ∀ at' ∈ List.range 9, nearly s.cps.toList b at' = false := by decide +kernel
theorem base_low : ∀ c ∈ base, c ∈ cod "abcdefghijklmnopqrstuvwxyz" := by decide +kernel
theorem cons_low : ∀ c ∈ cons, c ∈ cod "abcdefghijklmnopqrstuvwxyz" := by decide +kernel
theorem abc_range : ∀ c ∈ cod "abcdefghijklmnopqrstuvwxyz", 97 ≤ c ∧ c ≤ 122 := by decide +kernel
theorem base_getD {i : Nat} (h : i < 25) : base.getD i 0 ∈ base := by
  have e25 : base.length = 25 := by decide +kernel
  rw [List.getD_eq_getElem?_getD, List.getElem?_eq_getElem (by omega)]
  exact List.getElem_mem _
theorem cons_getD {i : Nat} (h : i < 20) : cons.getD i 0 ∈ cons := by
  have e20 : cons.length = 20 := by decide +kernel
  rw [List.getD_eq_getElem?_getD, List.getElem?_eq_getElem (by omega)]
  exact List.getElem_mem _
/-- what is known of a drawn name -/
structure NameOk (l : List Nat) : Prop where
  nm : isName l = true
  l1 : 1 ≤ l.length
  l8 : l.length ≤ 8
  low : ∀ c ∈ l, 97 ≤ c ∧ c ≤ 122
theorem NameOk.no32 {l : List Nat} (h : NameOk l) : 32 ∉ l := fun hm => by have := h.low 32 hm; omega
theorem NameOk.ne {l : List Nat} (h : NameOk l) : l ≠ [] := fun e => by have := h.l1; rw [e] at this; simp at this
theorem isName_of {l : List Nat} (h1 : 1 ≤ l.length) (h2 : l.length ≤ 8) (h3 : ∀ c ∈ l, c ∈ cod "abcdefghijklmnopqrstuvwxyz") (h4 : sg l ∉ ks) : NameOk l := by
  refine ⟨?_, h1, h2, fun c hc => abc_range c (h3 c hc)⟩
  unfold isName
  rw [decide_eq_false h4, decide_eq_true h1, decide_eq_true h2, List.all_eq_true.mpr fun c hc => decide_eq_true (h3 c hc)]
  rfl
theorem nA_ok {b : Nat} (hb : b ∈ base) {many k : Int} (h0 : 0 ≤ k) (h1 : k < many) (h2 : many < 9) : NameOk (nA b many k) := by
  have hl : (nA b many k).length = (many - k).toNat := List.length_replicate
  have hm : ∀ c ∈ nA b many k, c = b := fun c hc => (List.mem_replicate.mp hc).2
  refine isName_of (by omega) (by omega) (fun c hc => by rw [hm c hc]; exact base_low b hb) fun hk => ?_
  have := kwA _ hk b hb
  rw [show (sg (nA b many k)).cps.toList = nA b many k from rfl] at this
  rw [List.all_eq_false] at this
  obtain ⟨c, hc, hn⟩ := this
  exact hn (by simp [hm c hc])
theorem nB_ok {b : Nat} (hb : b ∈ base) {m size at' k : Int} (hs : 2 ≤ size ∧ size ≤ 8) (ha : 0 ≤ at' ∧ at' < size) : NameOk (nB m size at' b k) := by
  obtain ⟨s1, s2⟩ := hs
  obtain ⟨t1, t2⟩ := ha
  have c1 : cons.getD ((m / 4200 + 3 * k) % 20).toNat 0 ∈ cons := cons_getD (by omega)
  have c2 : cons.getD ((m / 84000 + k / 20) % 20).toNat 0 ∈ cons := cons_getD (by omega)
  unfold nB
  generalize cons.getD ((m / 4200 + 3 * k) % 20).toNat 0 = x1 at *
  generalize cons.getD ((m / 84000 + k / 20) % 20).toNat 0 = x2 at *
  have hat : ((at' + 1) % size).toNat = (at'.toNat + 1) % size.toNat := by
    obtain ⟨a, rfl⟩ := Int.eq_ofNat_of_zero_le t1
    obtain ⟨s, rfl⟩ := Int.eq_ofNat_of_zero_le (show 0 ≤ size by omega)
    show (((a : Int) + 1) % (s : Int)).toNat = (a + 1) % s
    rw [show ((a : Int) + 1) = ((a + 1 : Nat) : Int) by omega, ← Int.natCast_emod]
    rfl
  have ha' : at'.toNat < size.toNat := by omega
  have hs' : 2 ≤ size.toNat ∧ size.toNat ≤ 8 := by omega
  rw [hat]
  generalize at'.toNat = a at *
  generalize size.toNat = s at *
  obtain ⟨z1, z2⟩ := hs'
  have hmod : (a + 1) % s < s := Nat.mod_lt _ (by omega)
  have hne : (a + 1) % s ≠ a := by
    intro e
    by_cases h : a + 1 < s
    · rw [Nat.mod_eq_of_lt h] at e; omega
    · have : a + 1 = s := by omega
      rw [this, Nat.mod_self] at e; omega
  have hlen : (((List.replicate s b).set a x1).set ((a + 1) % s) x2).length = s := by simp
  have hmem : ∀ c ∈ ((List.replicate s b).set a x1).set ((a + 1) % s) x2, c ∈ cod "abcdefghijklmnopqrstuvwxyz" := fun c hc => by
    rcases List.mem_or_eq_of_mem_set hc with hc | rfl
    · rcases List.mem_or_eq_of_mem_set hc with hc | rfl
      · rw [(List.mem_replicate.mp hc).2]; exact base_low b hb
      · exact cons_low _ c1
    · exact cons_low _ c2
  refine isName_of (by omega) (by omega) hmem fun hk => ?_
  have := kwB _ hk b hb a (by simp; omega)
  rw [show (sg (((List.replicate s b).set a x1).set ((a + 1) % s) x2)).cps.toList = ((List.replicate s b).set a x1).set ((a + 1) % s) x2 from rfl] at this
  have yes : nearly (((List.replicate s b).set a x1).set ((a + 1) % s) x2) b a = true := by
    unfold nearly
    rw [hlen]
    have g1 : (((List.replicate s b).set a x1).set ((a + 1) % s) x2)[a]? = some x1 := by
      rw [List.getElem?_set_ne hne, List.getElem?_set_self (by simp; omega)]
    have g2 : (((List.replicate s b).set a x1).set ((a + 1) % s) x2)[(a + 1) % s]? = some x2 := by
      rw [List.getElem?_set_self (by simp; omega)]
    rw [g1, g2]
    simp only [Bool.and_eq_true, List.all_eq_true, List.mem_range, Option.any_some, decide_eq_true_eq, Bool.or_eq_true, beq_iff_eq]
    refine ⟨⟨fun i hi => ?_, c1⟩, c2⟩
    by_cases i1 : i = a
    · exact .inl (.inl i1)
    · by_cases i2 : i = (a + 1) % s
      · exact .inl (.inr i2)
      · refine .inr ?_
        rw [List.getElem?_set_ne (Ne.symm i2), List.getElem?_set_ne (Ne.symm i1), List.getElem?_replicate, if_pos hi]
  rw [yes] at this
  cases this
theorem namesL_ok {c many : Int} (hm : 0 ≤ many ∧ many ≤ 800) : ∀ l ∈ namesL c many, NameOk l := by
  intro l hl
  have hb : base.getD (mixed c 3 % 25).toNat 0 ∈ base := base_getD (by omega)
  have mr := (mixed_range c 3).1
  unfold namesL at hl
  split at hl
  · rename_i k
    obtain ⟨j, j0, j1, rfl⟩ := nums_mem _ _ _ _ hl
    exact nA_ok hb j0 (by omega) k.2
  · obtain ⟨j, j0, j1, rfl⟩ := nums_mem _ _ _ _ hl
    exact nB_ok hb (by omega) ⟨Int.emod_nonneg _ (by omega), Int.emod_lt_of_pos _ (by omega)⟩
end LW

set_option Elab.async false
set_option linter.all false
set_option maxRecDepth 100000
set_option maxHeartbeats 2000000
namespace LW
open PySem PySem.Spec PyProof.Rows L2 DL
/-! drawn names differ -/
theorem nums_nodup (f : Int → List Nat) : ∀ (n : Nat) (lo : Int), (∀ i j : Int, lo ≤ i → i < j → j < lo + n → f i ≠ f j) → (nums f lo n).Nodup
  | 0, _, _ => List.nodup_nil
  | n + 1, lo, h => by
    refine List.nodup_cons.mpr ⟨fun hm => ?_, nums_nodup f n (lo + 1) fun i j h1 h2 h3 => h i j (by omega) h2 (by omega)⟩
    obtain ⟨k, k1, k2, k3⟩ := nums_mem f n (lo + 1) _ hm
    exact h lo k (by omega) (by omega) (by omega) k3
theorem nA_ne (b : Nat) {many i j : Int} (h : i < j) (h2 : j < many) : nA b many i ≠ nA b many j := fun e => by
  have := congrArg List.length e
  simp only [nA, List.length_replicate] at this
  omega
theorem cons_nodup : cons.Nodup := by decide +kernel
theorem cons_inj {i j : Nat} (hi : i < 20) (hj : j < 20) (h : cons.getD i 0 = cons.getD j 0) : i = j := by
  have e20 : cons.length = 20 := by decide +kernel
  rw [List.getD_eq_getElem?_getD, List.getD_eq_getElem?_getD, List.getElem?_eq_getElem (by omega), List.getElem?_eq_getElem (by omega)] at h
  exact (List.getElem_inj cons_nodup).mp h
theorem nB_ne (b : Nat) {m size at' i j : Int} (hs : 2 ≤ size ∧ size ≤ 8) (ha : 0 ≤ at' ∧ at' < size) (h0 : 0 ≤ i) (h : i < j) (h2 : j < 400) : nB m size at' b i ≠ nB m size at' b j := fun e => by
  obtain ⟨s1, s2⟩ := hs
  obtain ⟨t1, t2⟩ := ha
  have u0 : 0 ≤ (at' + 1) % size := Int.emod_nonneg _ (by omega)
  have u1 : (at' + 1) % size < size := Int.emod_lt_of_pos _ (by omega)
  have hne : ((at' + 1) % size).toNat ≠ at'.toNat := by
    intro z
    have z' : (at' + 1) % size = at' := by omega
    by_cases c : at' + 1 < size
    · rw [Int.emod_eq_of_lt (by omega) c] at z'; omega
    · have : at' + 1 = size := by omega
      rw [this, Int.emod_self] at z'; omega
  unfold nB at e
  have g1 := congrArg (fun l : List Nat => l[at'.toNat]?) e
  have g2 := congrArg (fun l : List Nat => l[((at' + 1) % size).toNat]?) e
  rw [List.getElem?_set_ne hne, List.getElem?_set_ne hne, List.getElem?_set_self (by simp; omega), List.getElem?_set_self (by simp; omega)] at g1
  rw [List.getElem?_set_self (by simp; omega), List.getElem?_set_self (by simp; omega)] at g2
  have c1 := cons_inj (by omega) (by omega) (Option.some.inj g1)
  have c2 := cons_inj (by omega) (by omega) (Option.some.inj g2)
  clear g1 g2 e
  generalize m / 4200 = A at *
  generalize m / 84000 = B at *
  have e1 : (A + 3 * i) % 20 = (A + 3 * j) % 20 := by omega
  have e2 : (B + i / 20) % 20 = (B + j / 20) % 20 := by omega
  have e3 : i % 20 = j % 20 := by omega
  have e4 : i / 20 = j / 20 := by omega
  omega
theorem namesL_nodup {c many : Int} (hm : 0 ≤ many ∧ many ≤ 400) : (namesL c many).Nodup := by
  have mr := (mixed_range c 3).1
  unfold namesL
  split
  · exact nums_nodup _ _ _ fun i j h1 h2 h3 => nA_ne _ h2 (by omega)
  · exact nums_nodup _ _ _ fun i j h1 h2 h3 => nB_ne _ (by omega) ⟨Int.emod_nonneg _ (by omega), Int.emod_lt_of_pos _ (by omega)⟩ h1 h2 (by omega)
end LW

set_option Elab.async false
set_option linter.all false
set_option maxRecDepth 100000
set_option maxHeartbeats 4000000
namespace LP
open PySem PySem.Spec PyProof.Rows L2 DL LW
def F_event_done : SF :=
  (sSeq (sSet 2 (eW (eIx (eB 1) (eC (.int 1)))))
  (sSeq (sSet 3 (eW (eIx (eB 1) (eC (.int 2)))))
  (sSeq (sIf (cT (eCmp eqQ (eIx (eB 1) (eC (.int 0))) (eC (.str (PySem.Str.ofString "late"))))) (sSeq (sSet 4 (ePop 0 (pKey 0 (pNm 0) (eV 2)) (eV 3) (eC (.int 0))))
  (sSeq (sIf (cT (eCmp cGt (eB 4) (eC (.int 0)))) (sPutP 0 (pKey 0 (pNm 0) (eV 2)) (eOp gAdd (eV 3) (eW (eIx (eB 1) (eC (.int 3))))) (eOp gAdd (eDget (eDk (eB 0) (eV 2)) (eOp gAdd (eV 3) (eW (eIx (eB 1) (eC (.int 3))))) (eC (.int 0))) (eV 4))) sNx)
  (sRet (eC (.int 0))))) sNx)
  (sSeq (sSet 4 (eB1 gSum (eValsL (eDk (eB 0) (eV 2)))))
  (sSeq (sPutP 0 (pNm 0) (eV 2) eDn)
  (sSeq (sIf (cT (eCmp eqQ (eIx (eB 1) (eC (.int 0))) (eC (.str (PySem.Str.ofString "quit"))))) (sRet (eM 4)) sNx)
  (sSeq (sIf (cT (eCmp cGt (eB 4) (eC (.int 0)))) (sPutP 0 (pKey 0 (pNm 0) (eV 2)) (eV 3) (eV 4)) sNx)
  (sRet (eC (.int 0))))))))))
def phi_event_done : T → List D → Option (T × T) := runM 5 1 F_event_done
def B_one_day_1 : SF :=
  (sIf (cT (eCmp eqQ (eIx (eB 4) (eC (.int 2))) (eB 2))) (sPutP 3 (pNm 3) (eW (eIx (eB 4) (eC (.int 1)))) (eOp gAdd (eDget (eB 3) (eW (eIx (eB 4) (eC (.int 1)))) (eC (.int 0))) (eCallM phi_event_done 0 (pNm 0) (aC (eV 4) aN)))) sNx)
def B_one_day_2 : SF :=
  (sSeq (sSet 8 (ePop 0 (pKey 0 (pNm 0) (eV 7)) (eV 2) (eC (.int 0))))
  (sSeq (sIf (cT (eCmp cGt (eB 8) (eC (.int 0)))) (sApp 5 (eFz (eT (aC (eV 7) (aC (eV 8) aN))))) sNx)
  (sIf (cT (eCmp cGt (eDget (eB 3) (eV 7) (eC (.int 0))) (eC (.int 0)))) (sApp 6 (eFz (eT (aC (eV 7) (aC (eDix (eB 3) (eV 7)) aN))))) sNx)))
def F_one_day : SF :=
  (sSeq (sSet 3 eDn)
  (sSeq (sFor (iL (eV 1)) (gNm 4) B_one_day_1)
  (sSeq (sSet 5 (eL aN))
  (sSeq (sSet 6 (eL aN))
  (sSeq (sFor (iL (eFz (eKeysL (eB 0)))) (gNm 7) B_one_day_2)
  (sRet (eT (aC (eM 5) (aC (eM 6) aN)))))))))
def phi_one_day : T → List D → Option (T × T) := runM 9 2 F_one_day
def B_told_days_1 : SF :=
  (sPutP 3 (pNm 3) (eV 4) (eDictP (eB 6)))
def B_told_days_2 : SF :=
  (sSeq (sSet 10 (eB1 gSum (eValsL (eDk (eB 3) (eV 4)))))
  (sIf (cT (eCmp cGt (eB 10) (eC (.int 0)))) (sApp 9 (eFz (eT (aC (eV 4) (aC (eV 10) aN))))) sNx))
def F_told_days : SF :=
  (sSeq (sSet 3 eDn)
  (sSeq (sFor (iL (eV 0)) (gTp 3 (gAnd (gNm 4) (gAnd (gNm 5) (gAnd (gNm 6) gEnd)))) B_told_days_1)
  (sSeq (sSet 7 (eComp [8] (iR2 (aC (eC (.int 1)) (aC (eOp gAdd (eV 2) (eC (.int 1))) aN))) (gNm 8) cYes (eCallM phi_one_day 3 (pNm 3) (aC (eV 1) (aC (eV 8) aN)))))
  (sSeq (sSet 9 (eL aN))
  (sSeq (sFor (iKy (eV 3)) (gNm 4) B_told_days_2)
  (sRet (eT (aC (eM 7) (aC (eM 9) aN)))))))))
def phi_told_days : List D → Option T := runF 11 3 F_told_days
def F_law_cell : SF :=
  (sSeq (sIf (cT (eCmp cLt (eB 1) (eB1 gLen (eB 0)))) (sRet (eW (eIx (eB 0) (eV 1)))) sNx)
  (sRet (eC (.int 0))))
def phi_law_cell : List D → Option T := runF 2 2 F_law_cell
def B_law_plan_1 : SF :=
  (sSeq (sSet 6 (eCall phi_law_mixed (aC (eV 0) (aC (eOp gAdd (eOp gAdd (eC (.int 40)) (eOp gMul (eC (.int 13)) (eV 1))) (eV 5)) aN))))
  (sSeq (sSet 4 (eOp gAdd (eOp gAdd (eV 4) (eC (.int 1))) (eOp gMod (eV 6) (eW (eIx (eL (aC (eC (.int 5)) (aC (eC (.int 12)) (aC (eC (.int 1)) aN)))) (eOp gMod (eCall phi_law_mixed (aC (eV 0) (aC (eV 1) aN))) (eC (.int 3))))))))
  (sSeq (sIf (cT (eCmp cGt (eB 4) (eC (.int 60)))) sBk sNx)
  (sApp 3 (eFz (eT (aC (eV 4) (aC (eCall phi_law_coins (aC (eOp gAdd (eV 0) (eV 5)) (aC (eOp gMod (eOp gDiv (eV 6) (eC (.int 60))) (eC (.int 1009))) (aC (eOp gPow (eC (.int 10)) (eC (.int 12))) aN)))) aN))))))))
def F_law_plan : SF :=
  (sSeq (sSet 2 (eOp gAdd (eC (.int 1)) (eOp gMod (eCall phi_law_mixed (aC (eV 0) (aC (eOp gAdd (eV 1) (eC (.int 20))) aN))) (eC (.int 5)))))
  (sSeq (sIf (cAnd (cT (eCmp eqQ (eOp gMod (eV 1) (eC (.int 5))) (eC (.int 0)))) (cT (eCmp eqQ (eOp gMod (eOp gDiv (eCall phi_law_mixed (aC (eV 0) (aC (eOp gAdd (eV 1) (eC (.int 20))) aN))) (eC (.int 5))) (eC (.int 3))) (eC (.int 1))))) (sSet 2 (eC (.int 12))) sNx)
  (sSeq (sSet 3 (eL aN))
  (sSeq (sSet 4 (eC (.int 0)))
  (sSeq (sFor (iR1 (aC (eV 2) aN)) (gNm 5) B_law_plan_1)
  (sRet (eM 3)))))))
def phi_law_plan : List D → Option T := runF 7 2 F_law_plan
def B_law_debts_1 : SF :=
  (sSeq (sSet 6 (eCall phi_law_mixed (aC (eV 5) (aC (eV 4) aN))))
  (sIf (cAnd (cT (eCmp cGt (eOp gMod (eV 6) (eC (.int 3))) (eC (.int 0)))) (cT (eCmp cLt (eB1 gLen (eB 3)) (eB1 gLen (eB 1))))) (sApp 3 (eFz (eT (aC (eW (eIx (eB 1) (eB1 gLen (eB 3)))) (aC (eW (eIx (eB 2) (eOp gMod (eOp gDiv (eV 6) (eC (.int 3))) (eB1 gLen (eB 2))))) (aC (eCall phi_law_plan (aC (eV 5) (aC (eV 4) aN))) aN)))))) sNx))
def F_law_debts : SF :=
  (sSeq (sSet 3 (eL aN))
  (sSeq (sFor (iEn (aC (eV 0) aN)) (gTp 2 (gAnd (gNm 4) (gAnd (gNm 5) gEnd))) B_law_debts_1)
  (sRet (eM 3))))
def phi_law_debts : List D → Option T := runF 7 3 F_law_debts
end LP

--ev++
set_option Elab.async false
set_option linter.all false
set_option maxRecDepth 100000
set_option maxHeartbeats 2000000
/-! What the plans tell: told_days. -/
namespace LP
open PySem PySem.Spec PyProof.Rows L2 DL
open LW (wD NameOk)
abbrev Pl := Int × Int
def plD (p : Pl) : D := .tup [.int p.1, .int p.2]
def plK (p : Pl) : Key × D := (.inl p.1, .int p.2)
abbrev Pn := List Nat × List Pl
def pnT (x : Pn) : Key × T := (.inr (sg x.1), T.dic (pairsT (x.2.map plK)))
theorem pairs_ok : ∀ l : List Pl, pairsD (l.map plD) = some (l.map plK)
  | [] => rfl
  | p :: l => by
    have ih := pairs_ok l
    show (match plD p :: l.map plD with | [] => some [] | .tup [k, v] :: r => _ | _ => none) = _
    simp only [plD]
    show (keyD (.int p.1)).bind _ = _
    simp only [ih]
    rfl
theorem putD_new {kd : List (Key × D)} {k : Key} {d : D} (h : k ∉ kd.map (·.1)) : putD kd k d = kd ++ [(k, d)] := by
  unfold putD
  rw [if_neg]
  simp only [List.any_eq_true, decide_eq_true_eq, not_exists, not_and]
  intro x hx e
  exact h (e ▸ List.mem_map_of_mem hx)
theorem merge_new : ∀ (more kd : List (Key × D)), ((kd ++ more).map (·.1)).Nodup → mergeD kd more = kd ++ more
  | [], kd, _ => by simp [mergeD]
  | x :: more, kd, h => by
    show mergeD (putD kd x.1 x.2) more = _
    rw [putD_new, merge_new more]
    · simp
    · simpa using h
    · intro hm
      rw [List.map_append, List.map_cons] at h
      exact (List.nodup_append.mp h).2.2 _ hm _ (by simp) rfl
theorem merge_ok {l : List Pl} (h : (l.map (·.1)).Nodup) : mergeD [] (l.map plK) = l.map plK := by
  rw [merge_new _ [] ?_]
  · rfl
  · rw [List.nil_append, List.map_map]
    have : ((fun x : Key × D => x.1) ∘ plK) = (fun i : Int => (Sum.inl i : Key)) ∘ (fun p : Pl => p.1) := rfl
    rw [this, ← List.map_map]
    exact List.Pairwise.map _ (fun a b n e => n (Sum.inl.inj e)) h
/-- the place of a name among the plans -/
theorem val_at : ∀ (pre : List Pn) (x : Pn) (post : List Pn), x.1 ∉ pre.map (·.1) → valT ((pre ++ x :: post).map pnT) (.inr (sg x.1)) = some (.dic (pairsT (x.2.map plK)))
  | [], x, post, _ => by
    rw [List.nil_append, List.map_cons]
    show (if (Sum.inr (sg x.1) : Key) = Sum.inr (sg x.1) then _ else _) = _
    rw [if_pos rfl]
  | y :: pre, x, post, h => by
    rw [List.cons_append, List.map_cons]
    show (if (Sum.inr (sg y.1) : Key) = Sum.inr (sg x.1) then _ else _) = _
    rw [List.map_cons, List.mem_cons, not_or] at h
    rw [if_neg (fun e => h.1 (sg_inj.mp (Sum.inr.inj e)).symm)]
    exact val_at pre x post h.2
theorem set_at (u : T) : ∀ (pre : List Pn) (x : Pn) (post : List Pn), x.1 ∉ pre.map (·.1) → setT ((pre ++ x :: post).map pnT) (.inr (sg x.1)) u = pre.map pnT ++ (.inr (sg x.1), u) :: post.map pnT
  | [], x, post, _ => by
    rw [List.nil_append, List.map_cons]
    show (if (Sum.inr (sg x.1) : Key) = Sum.inr (sg x.1) then _ else _) = _
    rw [if_pos rfl]; rfl
  | y :: pre, x, post, h => by
    rw [List.cons_append, List.map_cons]
    show (if (Sum.inr (sg y.1) : Key) = Sum.inr (sg x.1) then _ else _) = _
    rw [List.map_cons, List.mem_cons, not_or] at h
    rw [if_neg (fun e => h.1 (sg_inj.mp (Sum.inr.inj e)).symm), set_at u pre x post h.2]
    rfl
theorem put_at {n : List Nat} {u : T} {ps : List Pn} (h : n ∉ ps.map (·.1)) : putT (ps.map pnT) (.inr (sg n)) u = ps.map pnT ++ [(.inr (sg n), u)] := by
  unfold putT
  rw [if_neg]
  simp only [List.any_eq_true, decide_eq_true_eq, not_exists, not_and]
  intro x hx e
  obtain ⟨y, hy, rfl⟩ := List.mem_map.mp hx
  have : (Sum.inr (sg y.1) : Key) = Sum.inr (sg n) := e
  exact h ((sg_inj.mp (Sum.inr.inj this)) ▸ List.mem_map_of_mem hy)
theorem cnt_at {n : List Nat} {ps : List Pn} (h : n ∉ ps.map (·.1)) : cntT (ps.map pnT) (.inr (sg n)) = 0 := by
  unfold cntT
  rw [List.length_eq_zero_iff, List.filter_eq_nil_iff]
  intro x hx e
  obtain ⟨y, hy, rfl⟩ := List.mem_map.mp hx
  have : (Sum.inr (sg y.1) : Key) = Sum.inr (sg n) := of_decide_eq_true e
  exact h ((sg_inj.mp (Sum.inr.inj this)) ▸ List.mem_map_of_mem hy)
/-- a day of a plan -/
def atDay (d : Int) (l : List Pl) : List Pl := l.filter fun p => decide (p.1 = d)
def offDay (d : Int) (l : List Pl) : List Pl := l.filter fun p => decide (p.1 ≠ d)
theorem val_day (d : Int) : ∀ {l : List Pl}, (l.map (·.1)).Nodup → (valT (pairsT (l.map plK)) (.inl d) = none ∧ atDay d l = []) ∨ ∃ c, valT (pairsT (l.map plK)) (.inl d) = some (.p (.int c)) ∧ atDay d l = [(d, c)]
  | [], _ => .inl ⟨rfl, rfl⟩
  | (e, c) :: l, h => by
    rw [List.map_cons, List.nodup_cons] at h
    by_cases q : e = d
    · subst q
      refine .inr ⟨c, ?_, ?_⟩
      · show (if (Sum.inl e : Key) = Sum.inl e then _ else _) = _
        rw [if_pos rfl]; rfl
      · unfold atDay
        rw [List.filter_cons_of_pos (by simp)]
        congr 1
        rw [List.filter_eq_nil_iff]
        intro p hp z
        have : p.1 = e := of_decide_eq_true z
        exact h.1 (List.mem_map.mpr ⟨p, hp, this⟩)
    · have e1 : valT (pairsT (((e, c) :: l).map plK)) (.inl d) = valT (pairsT (l.map plK)) (.inl d) := by
        show (if (Sum.inl e : Key) = Sum.inl d then _ else _) = _
        rw [if_neg (fun z => q (Sum.inl.inj z))]
        rfl
      have e2 : atDay d ((e, c) :: l) = atDay d l := by
        unfold atDay
        rw [List.filter_cons_of_neg (by simpa using q)]
      rw [e1, e2]
      exact val_day d h.2
theorem drop_day (d : Int) (l : List Pl) : dropT (pairsT (l.map plK)) (.inl d) = pairsT ((offDay d l).map plK) := by
  induction l with
  | nil => rfl
  | cons p l ih =>
    obtain ⟨e, c⟩ := p
    unfold dropT offDay at *
    by_cases q : e = d
    · subst q
      rw [List.filter_cons_of_neg (by simp)]
      show List.filter _ ((Sum.inl e, T.p (.int c)) :: pairsT (l.map plK)) = _
      rw [List.filter_cons_of_neg (by simp)]
      exact ih
    · rw [List.filter_cons_of_pos (by simpa using q)]
      show List.filter _ ((Sum.inl e, T.p (.int c)) :: pairsT (l.map plK)) = _
      rw [List.filter_cons_of_pos (by rw [decide_eq_true_eq]; exact fun z => q (Sum.inl.inj z))]
      show _ :: _ = _ :: _
      rw [ih]; rfl
abbrev Rw := List Nat × Int
def rwD (r : Rw) : D := .tup [.str (sg r.1), .int r.2]
/-- what falls due on a day -/
def paidL (ps : List Pn) (d : Int) : List Rw := ps.flatMap fun x => (atDay d x.2).map fun p => (x.1, p.2)
def cutL (ps : List Pn) (d : Int) : List Pn := ps.map fun x => (x.1, offDay d x.2)
def PnOk (x : Pn) : Prop := (x.2.map (·.1)).Nodup ∧ ∀ p ∈ x.2, 1 ≤ p.2
theorem keys_ps (ps : List Pn) : ((ps.map pnT).map (·.1)).map kD = ps.map fun x => D.str (sg x.1) := by
  rw [List.map_map, List.map_map]; rfl
theorem paid_len (d : Int) : ∀ ps : List Pn, (∀ x ∈ ps, PnOk x) → (paidL ps d).length ≤ ps.length
  | [], _ => Nat.le_refl _
  | x :: ps, h => by
    have ih := paid_len d ps fun y hy => h y (List.mem_cons_of_mem _ hy)
    have e0 : paidL (x :: ps) d = (atDay d x.2).map (fun p => (x.1, p.2)) ++ paidL ps d := List.flatMap_cons
    rw [e0, List.length_append, List.length_map, List.length_cons]
    rcases val_day d (h x (by simp)).1 with ⟨_, e⟩ | ⟨c, _, e⟩
    · rw [e, List.length_nil]; omega
    · rw [e, List.length_cons, List.length_nil]; omega
theorem off_all {d : Int} {l : List Pl} (h : atDay d l = []) : offDay d l = l := by
  unfold atDay at h
  unfold offDay
  rw [List.filter_eq_self]
  intro p hp
  have := List.filter_eq_nil_iff.mp h p hp
  simpa using this
theorem paid_app (ps : List Pn) (x : Pn) (d : Int) : paidL (ps ++ [x]) d = paidL ps d ++ (atDay d x.2).map fun p => (x.1, p.2) := by
  unfold paidL; rw [List.flatMap_append]; simp
theorem gT_pair (a b : D) : mkTup [.p a, .p b] = .p (.tup [a, b]) := rfl
theorem vD0 (k : Key) : valD [] k = none := rfl
theorem day_loop (d : Int) (ev b4 : Option T) (ps : List Pn) (hn : (ps.map (·.1)).Nodup) (ho : ∀ x ∈ ps, PnOk x) (hl : ps.length ≤ 1000) :
    ∃ b7 b8, loopD (gNm 7) B_one_day_2 (ps.map fun x => D.str (sg x.1)) [some (.dic (ps.map pnT)), ev, some (.p (.int d)), some (.dic (pairsT [])), b4, some (.lst []), some (.lst []), none, none] =
      some (.nx, [some (.dic ((cutL ps d).map pnT)), ev, some (.p (.int d)), some (.dic (pairsT [])), b4, some (.lst (((paidL ps d).map rwD).map T.p)), some (.lst []), b7, b8]) := by
  obtain ⟨e, h1, b7, b8, he⟩ := loop_img0 (G := gNm 7) (F := B_one_day_2) (fun x : Pn => D.str (sg x.1)) (fun done e => ∃ b7 b8, e = [some (.dic ((cutL done d ++ ps.drop done.length).map pnT)), ev, some (.p (.int d)), some (.dic (pairsT [])), b4, some (.lst (((paidL done d).map rwD).map T.p)), some (.lst []), b7, b8]) ps
    (env := [some (.dic (ps.map pnT)), ev, some (.p (.int d)), some (.dic (pairsT [])), b4, some (.lst []), some (.lst []), none, none]) ⟨none, none, rfl⟩ (by
    rintro pre x post e hp ⟨b7, b8, rfl⟩
    have hdr : ps.drop pre.length = x :: post := by rw [hp]; simp
    have hnx : x.1 ∉ (cutL pre d).map (·.1) := by
      rw [hp, List.map_append, List.map_cons] at hn
      intro hm
      have : (cutL pre d).map (·.1) = pre.map (·.1) := by unfold cutL; rw [List.map_map]; rfl
      rw [this] at hm
      exact (List.nodup_append.mp hn).2.2 _ hm _ (by simp) rfl
    have hxo : PnOk x := ho x (by rw [hp]; simp)
    have hpl : (paidL pre d).length ≤ 1000 := by
      have := paid_len d pre fun y hy => ho y (by rw [hp]; simp [hy])
      have h2 := congrArg List.length hp
      simp at h2; omega
    have v1 := val_at (cutL pre d) x post hnx
    have s1 := fun u => set_at u (cutL pre d) x post hnx
    have dr := drop_day d x.2
    have fin : ∀ l', (cutL pre d).map pnT ++ (Sum.inr (sg x.1), T.dic (pairsT (l'.map plK))) :: post.map pnT = (cutL pre d ++ (x.1, l') :: post).map pnT := fun l' => by
      rw [List.map_append, List.map_cons]; rfl
    have hcut : cutL (pre ++ [x]) d ++ ps.drop (pre ++ [x]).length = cutL pre d ++ (x.1, offDay d x.2) :: post := by
      rw [hp]; unfold cutL; simp
    rw [hdr]
    rcases val_day d hxo.1 with ⟨v2, e2⟩ | ⟨c, v2, e2⟩
    · refine ⟨[some (.dic ((cutL pre d ++ x :: post).map pnT)), ev, some (.p (.int d)), some (.dic (pairsT [])), b4, some (.lst (((paidL pre d).map rwD).map T.p)), some (.lst []), some (.p (.str (sg x.1))), some (.p (.int 0))], .inl ?_, some (.p (.str (sg x.1))), some (.p (.int 0)), ?_⟩
      · simp (disch := omega) only [B_one_day_2, v1, s1, v2, vD0, Option.getD_none, ↓reduceIte, and_self, bindS, mapS, eV_q, kV_p, kV_l, kV_t, eM_q, kM_s, eB_q, kB_s, eC_q, eW_q, kW_p, aN_q, aC_q, kAC_q, kCons_q, aMv_q, kMv_s, kMv2_q, kMv3_s, eL_q, kL_q, eT_q, kT_q, kP_q, kBl_q, kT2_q, eFz_q, kFz_q, eOp_q, kOp1_q, kOp2_q, eCmp_q, kCm1_q, kCm2_q, eNeg_q, kNeg_q, eChain_q, kCh1_q, kCh2_q, kCh3_q, cT_q, kcT_q, cNot_q, kNot_q, cAnd_q, kcAnd_t, kcAnd_f, cOr_q, kcOr_t, kcOr_f, eIf_q, keIf_t, keIf_f, eAnd_q, keAnd_t, keAnd_f, eOr_q, keOr_t, keOr_f, eNot_q, keNot_q, sIf_q, kcIf_t, kcIf_f, eB1_q, kB1_q, eI2_q, kI2_q, eIsi_q, kIsi_q, kLst_q, eList_q, kList_q, kTpl_q, eTuple_q, kTuple_q, eCall_q, kCall_q, kCall2_q, eCallB_q, kCallB_q, kCl_q, allP_n, allP_c, eIx_q, kIx1_q, kIx2_q, oN_q, oS_q, koS_q, eSl_q, kSl1_q, kSl2_q, kSl3_q, cutT_p, cutT_l, sNx_q, sBk_q, sCt_q, sRetN_q, sSeq_q, kSeq_n, kSeq_r, kSeq_b, kSeq_c, sRet_q, kRet_q, sSet_q, kSet_q, sDrop_q, kDrop_q, gNm_q, gEnd_q, gAnd_q, gTp_q, kTp_q, partsT_p, partsT_t, kNx_q, sAsg_q, kAsg_q, sFor_q, kFor_q, loop_n, loop_c, kLp1_q, kLp2_n, kLp2_c, kLp2_b, kLp2_r, iL_q, kiL_q, iTp_q, kiTp_q, iSg_q, kiSg_q, iR1_q, kR1_q, iR2_q, kR2_q, iEn_q, kEn_q, iZp_q, kZp_q, kZp_t, sForV_q, kForV_q, kForV1_q, kForV2_n, kForV2_r, atL_q, kAtL_q, sApp_q, kApp_q, kApp1_q, kApp2_q, sPut_q, kPut_q, kPut1_q, kPut2_q, kPut3_q, kPut4_q, kPutEnd_q, asI_q, sAugIx_q, kAx_q, kAx0_q, kAx1_q, kAx2_q, kAx3_q, kAx4_q, kAx5_q, kAx6_q, kAx7_q, kAx8_q, sAug_q, kAug_q, kAug2_q, kAug3_q, comp_n, comp_c, kCp1_q, kCp2_t, kCp2_f, kCp3_q, kCp4_q, eComp_q, kComp_q, kLs_q, cYes_q, wipe_n, wipe_c, eM1_q, kM11_q, kM12_q, eSplit_q, kSp1_q, kSp2_q, eJoin_q, kJn1_q, kJn2_q, kJn3_q, kJn4_q, eCat_q, kCt0_q, kCt1_q, kCt2_q, kCt3_pl, kCt3_ll, kCt3_lp, kCt3_pp, itemsT_p, itemsT_t, itemsT_ll, isLT_p, isLT_l, eDn_q, eDix_q, kDx1_q, kDx2_q, kDx3_q, kDx4_q, eDget_q, kDg1_q, kDg2_q, kDg3_q, kDg4_q, kDg5_q, eDin_q, kDi1_q, kDi2_q, kDi3_q, kDi4_t, kDi4_f, sPutD_q, kPd1_q, kPd2_q, kPd3_q, kPd4_q, kPd5_q, atD_q, kAtD_q, dicT_p, dicT_o, keyT_i, keyT_s, toD_d, kV_d, sForM_q, kForM_q, loopT_n, loopT_c, kLt1_q, kLt2_n, kLt2_r, eM0_q, kM0_q, iR3_q, runF_q, kRun_r, kRun_n, cutT_s, gStarts, gFind, startE, T.toDs, T.toD, cleanT, tyD, tyOk, List.length_cons, List.length_nil, List.length_map, List.map_cons, List.map_nil, List.replicate, List.cons_append, List.nil_append, List.getElem?_cons_zero, List.getElem?_cons_succ, List.set_cons_zero, List.set_cons_succ, Nat.reduceAdd, Nat.reduceSub, Nat.reduceLT, Nat.reduceLeDiff, Nat.zero_add, gAdd_i, gAdd_g, gSub_i, gAddI_i, gMul_l, gMul_r, gDiv_i, gMod_i, gPow_i, gMulA_g, cLt_i, cLe_i, cGt_i, cGe_i, eqQ_i, neQ_i, eqQ_g, neQ_g, eqQ_ints, neQ_ints, eqQ_b, neQ_b, inQ_g, notInQ_g, gLen_g, gStr_i, gStr_s, gSum_p, gSum_l, gLen_p, gLen_l, toD_l, toDs_p, allP_map, ixT_lst, ixT_pl, ixT_pt, ixT_sg, signsD_g, atI_0, atI_1, atI_2, atI_3, atI_4, atI_5, atI_6, ofS, sg_len, ifLe, ifLt, rng_len, decide_true, decide_false, Bool.false_eq_true, Bool.not_true, Bool.not_false, Int.reduceLT, Int.reduceLE, Int.reduceEq, kit_ii, kit_ib, kit_ll, kit_bb, kit_bi, kit_ss, kit_tt, kit_tl, kit_lt, kit_ls, kit_li, kit_lb, kit_is, kit_si, kit_sb, kit_ti, kit_tb, kit_ts, toKs_pairs, iZpS_q, kZpS_q, iKy, iIts, iVls, List.nil_append, pNm_q, kPN_s, unb_l, unb_d, unb_o, unb_t, unb_p, unb_b, reb_l, reb_d, reb_o, reb_t, reb_p, reb_b, atP_q, kAtP_s, getP_n, getP_c, stepT_k, stepT_ix, stepT_it, stepT_f, putP_q, kPutP_s, setP_n, setP_c, kSP_s, setS_k, setS_ix, setS_it, setS_f, kPF3_q, pFld_q, kPF1_q, kPF2_o, kPF2_b, kPK4_q, pKey_q, kPK0_q, kPK1_q, kPK2_q, kPK3_d, kPK3_b, kPI5_q, kPI4_t, kPI4_l, pIx_q, kPI1_q, kPI2_q, kPI3_l, kPI3_t, eFl_q, kFl_q, valF_o, eDk_q, kDk1_q, kDk2_q, kDk3_q, valK_d, valK_p, sAppP_q, kAp1_q, kAp2_l, kAp2_b, kAp3_q, kAp4_l, kAp4_b, sExtP_q, kEx1_q, kEx2_l, kEx3_q, kEx4_l, sRevP_q, kRv1_q, kRv2_l, sPutP_q, kPp1_q, kPp2_q, kPp3_q, kPp4_q, kPp5_d, kPp5_b, sFldP_q, kFp1_q, kFp2_q, kFp3_o, ePop_q, kPo1_q, kPo2_d, kPo3_q, kPo4_q, kPo5_q, kPo6_d, kPo7_n, kPo7_d, kCM5_q, kCM4_q, kCM3_q, kCM2_q, kCM1_q, eCallM_q, kRM_q, kRM2_r, kRM2_n, runM_q, startM_q, kKl_q, eKeysL_q, kKL_q, keysT_d, kVl_q, eValsL_q, kVL_q, kDC2_q, eDictC_q, kDC_q, kDP3_q, kDP2_q, eDictP_q, kDP_q, iDic_q, kDc_q, kV_dt]
      · rw [hcut, paid_app, e2, off_all e2]; simp
    · have hc : 0 < c := by
        have : (d, c) ∈ atDay d x.2 := by rw [e2]; simp
        exact hxo.2 (d, c) (List.mem_filter.mp this).1
      have hpl' : (paidL pre d).length < 16000000 := by omega
      refine ⟨[some (.dic ((cutL pre d ++ (x.1, offDay d x.2) :: post).map pnT)), ev, some (.p (.int d)), some (.dic (pairsT [])), b4, some (.lst (((paidL (pre ++ [x]) d).map rwD).map T.p)), some (.lst []), some (.p (.str (sg x.1))), some (.p (.int c))], .inl ?_, some (.p (.str (sg x.1))), some (.p (.int c)), ?_⟩
      · simp (disch := omega) only [B_one_day_2, v1, s1, v2, vD0, Option.getD_none, dr, fin, hc, hpl', gT_pair, ↓reduceIte, and_self, bindS, mapS, eV_q, kV_p, kV_l, kV_t, eM_q, kM_s, eB_q, kB_s, eC_q, eW_q, kW_p, aN_q, aC_q, kAC_q, kCons_q, aMv_q, kMv_s, kMv2_q, kMv3_s, eL_q, kL_q, eT_q, kT_q, kP_q, kBl_q, kT2_q, eFz_q, kFz_q, eOp_q, kOp1_q, kOp2_q, eCmp_q, kCm1_q, kCm2_q, eNeg_q, kNeg_q, eChain_q, kCh1_q, kCh2_q, kCh3_q, cT_q, kcT_q, cNot_q, kNot_q, cAnd_q, kcAnd_t, kcAnd_f, cOr_q, kcOr_t, kcOr_f, eIf_q, keIf_t, keIf_f, eAnd_q, keAnd_t, keAnd_f, eOr_q, keOr_t, keOr_f, eNot_q, keNot_q, sIf_q, kcIf_t, kcIf_f, eB1_q, kB1_q, eI2_q, kI2_q, eIsi_q, kIsi_q, kLst_q, eList_q, kList_q, kTpl_q, eTuple_q, kTuple_q, eCall_q, kCall_q, kCall2_q, eCallB_q, kCallB_q, kCl_q, allP_n, allP_c, eIx_q, kIx1_q, kIx2_q, oN_q, oS_q, koS_q, eSl_q, kSl1_q, kSl2_q, kSl3_q, cutT_p, cutT_l, sNx_q, sBk_q, sCt_q, sRetN_q, sSeq_q, kSeq_n, kSeq_r, kSeq_b, kSeq_c, sRet_q, kRet_q, sSet_q, kSet_q, sDrop_q, kDrop_q, gNm_q, gEnd_q, gAnd_q, gTp_q, kTp_q, partsT_p, partsT_t, kNx_q, sAsg_q, kAsg_q, sFor_q, kFor_q, loop_n, loop_c, kLp1_q, kLp2_n, kLp2_c, kLp2_b, kLp2_r, iL_q, kiL_q, iTp_q, kiTp_q, iSg_q, kiSg_q, iR1_q, kR1_q, iR2_q, kR2_q, iEn_q, kEn_q, iZp_q, kZp_q, kZp_t, sForV_q, kForV_q, kForV1_q, kForV2_n, kForV2_r, atL_q, kAtL_q, sApp_q, kApp_q, kApp1_q, kApp2_q, sPut_q, kPut_q, kPut1_q, kPut2_q, kPut3_q, kPut4_q, kPutEnd_q, asI_q, sAugIx_q, kAx_q, kAx0_q, kAx1_q, kAx2_q, kAx3_q, kAx4_q, kAx5_q, kAx6_q, kAx7_q, kAx8_q, sAug_q, kAug_q, kAug2_q, kAug3_q, comp_n, comp_c, kCp1_q, kCp2_t, kCp2_f, kCp3_q, kCp4_q, eComp_q, kComp_q, kLs_q, cYes_q, wipe_n, wipe_c, eM1_q, kM11_q, kM12_q, eSplit_q, kSp1_q, kSp2_q, eJoin_q, kJn1_q, kJn2_q, kJn3_q, kJn4_q, eCat_q, kCt0_q, kCt1_q, kCt2_q, kCt3_pl, kCt3_ll, kCt3_lp, kCt3_pp, itemsT_p, itemsT_t, itemsT_ll, isLT_p, isLT_l, eDn_q, eDix_q, kDx1_q, kDx2_q, kDx3_q, kDx4_q, eDget_q, kDg1_q, kDg2_q, kDg3_q, kDg4_q, kDg5_q, eDin_q, kDi1_q, kDi2_q, kDi3_q, kDi4_t, kDi4_f, sPutD_q, kPd1_q, kPd2_q, kPd3_q, kPd4_q, kPd5_q, atD_q, kAtD_q, dicT_p, dicT_o, keyT_i, keyT_s, toD_d, kV_d, sForM_q, kForM_q, loopT_n, loopT_c, kLt1_q, kLt2_n, kLt2_r, eM0_q, kM0_q, iR3_q, runF_q, kRun_r, kRun_n, cutT_s, gStarts, gFind, startE, T.toDs, T.toD, cleanT, tyD, tyOk, List.length_cons, List.length_nil, List.length_map, List.map_cons, List.map_nil, List.replicate, List.cons_append, List.nil_append, List.getElem?_cons_zero, List.getElem?_cons_succ, List.set_cons_zero, List.set_cons_succ, Nat.reduceAdd, Nat.reduceSub, Nat.reduceLT, Nat.reduceLeDiff, Nat.zero_add, gAdd_i, gAdd_g, gSub_i, gAddI_i, gMul_l, gMul_r, gDiv_i, gMod_i, gPow_i, gMulA_g, cLt_i, cLe_i, cGt_i, cGe_i, eqQ_i, neQ_i, eqQ_g, neQ_g, eqQ_ints, neQ_ints, eqQ_b, neQ_b, inQ_g, notInQ_g, gLen_g, gStr_i, gStr_s, gSum_p, gSum_l, gLen_p, gLen_l, toD_l, toDs_p, allP_map, ixT_lst, ixT_pl, ixT_pt, ixT_sg, signsD_g, atI_0, atI_1, atI_2, atI_3, atI_4, atI_5, atI_6, ofS, sg_len, ifLe, ifLt, rng_len, decide_true, decide_false, Bool.false_eq_true, Bool.not_true, Bool.not_false, Int.reduceLT, Int.reduceLE, Int.reduceEq, kit_ii, kit_ib, kit_ll, kit_bb, kit_bi, kit_ss, kit_tt, kit_tl, kit_lt, kit_ls, kit_li, kit_lb, kit_is, kit_si, kit_sb, kit_ti, kit_tb, kit_ts, toKs_pairs, iZpS_q, kZpS_q, iKy, iIts, iVls, List.nil_append, pNm_q, kPN_s, unb_l, unb_d, unb_o, unb_t, unb_p, unb_b, reb_l, reb_d, reb_o, reb_t, reb_p, reb_b, atP_q, kAtP_s, getP_n, getP_c, stepT_k, stepT_ix, stepT_it, stepT_f, putP_q, kPutP_s, setP_n, setP_c, kSP_s, setS_k, setS_ix, setS_it, setS_f, kPF3_q, pFld_q, kPF1_q, kPF2_o, kPF2_b, kPK4_q, pKey_q, kPK0_q, kPK1_q, kPK2_q, kPK3_d, kPK3_b, kPI5_q, kPI4_t, kPI4_l, pIx_q, kPI1_q, kPI2_q, kPI3_l, kPI3_t, eFl_q, kFl_q, valF_o, eDk_q, kDk1_q, kDk2_q, kDk3_q, valK_d, valK_p, sAppP_q, kAp1_q, kAp2_l, kAp2_b, kAp3_q, kAp4_l, kAp4_b, sExtP_q, kEx1_q, kEx2_l, kEx3_q, kEx4_l, sRevP_q, kRv1_q, kRv2_l, sPutP_q, kPp1_q, kPp2_q, kPp3_q, kPp4_q, kPp5_d, kPp5_b, sFldP_q, kFp1_q, kFp2_q, kFp3_o, ePop_q, kPo1_q, kPo2_d, kPo3_q, kPo4_q, kPo5_q, kPo6_d, kPo7_n, kPo7_d, kCM5_q, kCM4_q, kCM3_q, kCM2_q, kCM1_q, eCallM_q, kRM_q, kRM2_r, kRM2_n, runM_q, startM_q, kKl_q, eKeysL_q, kKL_q, keysT_d, kVl_q, eValsL_q, kVL_q, kDC2_q, eDictC_q, kDC_q, kDP3_q, kDP2_q, eDictP_q, kDP_q, iDic_q, kDc_q, kV_dt]
        rw [paid_app, e2]; simp [rwD]
      · rw [hcut])
  subst he
  refine ⟨b7, b8, ?_⟩
  rw [h1]; simp [cutL]
theorem rows_np (rs : List D) : mkTup [.lst (rs.map T.p), .lst []] = .tup [.lst (rs.map T.p), .lst []] := rfl
/-- a day without events -/
theorem one_day_ok (d : Int) (ps : List Pn) (hn : (ps.map (·.1)).Nodup) (ho : ∀ x ∈ ps, PnOk x) (hl : ps.length ≤ 1000) :
    phi_one_day (.dic (ps.map pnT)) [.lst [], .int d] = some (.tup [.lst (((paidL ps d).map rwD).map T.p), .lst []], .dic ((cutL ps d).map pnT)) := by
  obtain ⟨b7, b8, h1⟩ := day_loop d (some (.p (.lst []))) none ps hn ho hl
  have hk := keys_ps ps
  unfold phi_one_day F_one_day
  simp (disch := omega) only [h1, hk, mkTup, ↓reduceIte, and_self, bindS, mapS, eV_q, kV_p, kV_l, kV_t, eM_q, kM_s, eB_q, kB_s, eC_q, eW_q, kW_p, aN_q, aC_q, kAC_q, kCons_q, aMv_q, kMv_s, kMv2_q, kMv3_s, eL_q, kL_q, eT_q, kT_q, kP_q, kBl_q, kT2_q, eFz_q, kFz_q, eOp_q, kOp1_q, kOp2_q, eCmp_q, kCm1_q, kCm2_q, eNeg_q, kNeg_q, eChain_q, kCh1_q, kCh2_q, kCh3_q, cT_q, kcT_q, cNot_q, kNot_q, cAnd_q, kcAnd_t, kcAnd_f, cOr_q, kcOr_t, kcOr_f, eIf_q, keIf_t, keIf_f, eAnd_q, keAnd_t, keAnd_f, eOr_q, keOr_t, keOr_f, eNot_q, keNot_q, sIf_q, kcIf_t, kcIf_f, eB1_q, kB1_q, eI2_q, kI2_q, eIsi_q, kIsi_q, kLst_q, eList_q, kList_q, kTpl_q, eTuple_q, kTuple_q, eCall_q, kCall_q, kCall2_q, eCallB_q, kCallB_q, kCl_q, allP_n, allP_c, eIx_q, kIx1_q, kIx2_q, oN_q, oS_q, koS_q, eSl_q, kSl1_q, kSl2_q, kSl3_q, cutT_p, cutT_l, sNx_q, sBk_q, sCt_q, sRetN_q, sSeq_q, kSeq_n, kSeq_r, kSeq_b, kSeq_c, sRet_q, kRet_q, sSet_q, kSet_q, sDrop_q, kDrop_q, gNm_q, gEnd_q, gAnd_q, gTp_q, kTp_q, partsT_p, partsT_t, kNx_q, sAsg_q, kAsg_q, sFor_q, kFor_q, loop_n, loop_c, kLp1_q, kLp2_n, kLp2_c, kLp2_b, kLp2_r, iL_q, kiL_q, iTp_q, kiTp_q, iSg_q, kiSg_q, iR1_q, kR1_q, iR2_q, kR2_q, iEn_q, kEn_q, iZp_q, kZp_q, kZp_t, sForV_q, kForV_q, kForV1_q, kForV2_n, kForV2_r, atL_q, kAtL_q, sApp_q, kApp_q, kApp1_q, kApp2_q, sPut_q, kPut_q, kPut1_q, kPut2_q, kPut3_q, kPut4_q, kPutEnd_q, asI_q, sAugIx_q, kAx_q, kAx0_q, kAx1_q, kAx2_q, kAx3_q, kAx4_q, kAx5_q, kAx6_q, kAx7_q, kAx8_q, sAug_q, kAug_q, kAug2_q, kAug3_q, comp_n, comp_c, kCp1_q, kCp2_t, kCp2_f, kCp3_q, kCp4_q, eComp_q, kComp_q, kLs_q, cYes_q, wipe_n, wipe_c, eM1_q, kM11_q, kM12_q, eSplit_q, kSp1_q, kSp2_q, eJoin_q, kJn1_q, kJn2_q, kJn3_q, kJn4_q, eCat_q, kCt0_q, kCt1_q, kCt2_q, kCt3_pl, kCt3_ll, kCt3_lp, kCt3_pp, itemsT_p, itemsT_t, itemsT_ll, isLT_p, isLT_l, eDn_q, eDix_q, kDx1_q, kDx2_q, kDx3_q, kDx4_q, eDget_q, kDg1_q, kDg2_q, kDg3_q, kDg4_q, kDg5_q, eDin_q, kDi1_q, kDi2_q, kDi3_q, kDi4_t, kDi4_f, sPutD_q, kPd1_q, kPd2_q, kPd3_q, kPd4_q, kPd5_q, atD_q, kAtD_q, dicT_p, dicT_o, keyT_i, keyT_s, toD_d, kV_d, sForM_q, kForM_q, loopT_n, loopT_c, kLt1_q, kLt2_n, kLt2_r, eM0_q, kM0_q, iR3_q, runF_q, kRun_r, kRun_n, cutT_s, gStarts, gFind, startE, T.toDs, T.toD, cleanT, tyD, tyOk, List.length_cons, List.length_nil, List.length_map, List.map_cons, List.map_nil, List.replicate, List.cons_append, List.nil_append, List.getElem?_cons_zero, List.getElem?_cons_succ, List.set_cons_zero, List.set_cons_succ, Nat.reduceAdd, Nat.reduceSub, Nat.reduceLT, Nat.reduceLeDiff, Nat.zero_add, gAdd_i, gAdd_g, gSub_i, gAddI_i, gMul_l, gMul_r, gDiv_i, gMod_i, gPow_i, gMulA_g, cLt_i, cLe_i, cGt_i, cGe_i, eqQ_i, neQ_i, eqQ_g, neQ_g, eqQ_ints, neQ_ints, eqQ_b, neQ_b, inQ_g, notInQ_g, gLen_g, gStr_i, gStr_s, gSum_p, gSum_l, gLen_p, gLen_l, toD_l, toDs_p, allP_map, ixT_lst, ixT_pl, ixT_pt, ixT_sg, signsD_g, atI_0, atI_1, atI_2, atI_3, atI_4, atI_5, atI_6, ofS, sg_len, ifLe, ifLt, rng_len, decide_true, decide_false, Bool.false_eq_true, Bool.not_true, Bool.not_false, Int.reduceLT, Int.reduceLE, Int.reduceEq, kit_ii, kit_ib, kit_ll, kit_bb, kit_bi, kit_ss, kit_tt, kit_tl, kit_lt, kit_ls, kit_li, kit_lb, kit_is, kit_si, kit_sb, kit_ti, kit_tb, kit_ts, toKs_pairs, iZpS_q, kZpS_q, iKy, iIts, iVls, List.nil_append, pNm_q, kPN_s, unb_l, unb_d, unb_o, unb_t, unb_p, unb_b, reb_l, reb_d, reb_o, reb_t, reb_p, reb_b, atP_q, kAtP_s, getP_n, getP_c, stepT_k, stepT_ix, stepT_it, stepT_f, putP_q, kPutP_s, setP_n, setP_c, kSP_s, setS_k, setS_ix, setS_it, setS_f, kPF3_q, pFld_q, kPF1_q, kPF2_o, kPF2_b, kPK4_q, pKey_q, kPK0_q, kPK1_q, kPK2_q, kPK3_d, kPK3_b, kPI5_q, kPI4_t, kPI4_l, pIx_q, kPI1_q, kPI2_q, kPI3_l, kPI3_t, eFl_q, kFl_q, valF_o, eDk_q, kDk1_q, kDk2_q, kDk3_q, valK_d, valK_p, sAppP_q, kAp1_q, kAp2_l, kAp2_b, kAp3_q, kAp4_l, kAp4_b, sExtP_q, kEx1_q, kEx2_l, kEx3_q, kEx4_l, sRevP_q, kRv1_q, kRv2_l, sPutP_q, kPp1_q, kPp2_q, kPp3_q, kPp4_q, kPp5_d, kPp5_b, sFldP_q, kFp1_q, kFp2_q, kFp3_o, ePop_q, kPo1_q, kPo2_d, kPo3_q, kPo4_q, kPo5_q, kPo6_d, kPo7_n, kPo7_d, kCM5_q, kCM4_q, kCM3_q, kCM2_q, kCM1_q, eCallM_q, kRM_q, kRM2_r, kRM2_n, runM_q, startM_q, kKl_q, eKeysL_q, kKL_q, keysT_d, kVl_q, eValsL_q, kVL_q, kDC2_q, eDictC_q, kDC_q, kDP3_q, kDP2_q, eDictP_q, kDP_q, iDic_q, kDc_q, kV_dt]
  rfl
def passed (ps : List Pn) (lo : Int) : Nat → List Pn
  | 0 => ps
  | n + 1 => passed (cutL ps lo) (lo + 1) n
theorem cutL_names (ps : List Pn) (d : Int) : (cutL ps d).map (·.1) = ps.map (·.1) := by unfold cutL; rw [List.map_map]; rfl
theorem cutL_ok {ps : List Pn} (d : Int) (h : ∀ x ∈ ps, PnOk x) : ∀ x ∈ cutL ps d, PnOk x := fun x hx => by
  obtain ⟨y, hy, rfl⟩ := List.mem_map.mp hx
  obtain ⟨h1, h2⟩ := h y hy
  exact ⟨(List.filter_sublist.map _).nodup h1, fun p hp => h2 p (List.mem_filter.mp hp).1⟩
theorem cutL_len (ps : List Pn) (d : Int) : (cutL ps d).length = ps.length := by unfold cutL; rw [List.length_map]
theorem paid_cut {ps : List Pn} {d e : Int} (h : d ≠ e) : paidL (cutL ps e) d = paidL ps d := by
  unfold paidL cutL
  rw [List.flatMap_map]
  congr 1; funext x
  have : atDay d (offDay e x.2) = atDay d x.2 := by
    unfold atDay offDay
    rw [List.filter_filter]
    congr 1; funext p
    by_cases q : p.1 = d
    · simp [q, h]
    · simp [q]
  show (atDay d (offDay e x.2)).map _ = _
  rw [this]
def dayT (rs : List Rw) : T := .tup [.lst ((rs.map rwD).map T.p), .lst []]
theorem days_comp (a0 a2 a4 a5 a6 a7 a9 a10 : Option T) : ∀ (n : Nat) (lo : Int) (ps : List Pn), (ps.map (·.1)).Nodup → (∀ x ∈ ps, PnOk x) → ps.length ≤ 1000 →
    compD [8] (gNm 8) cYes (eCallM phi_one_day 3 (pNm 3) (aC (eV 1) (aC (eV 8) aN))) (rngD lo n) [a0, some (.p (.lst [])), a2, some (.dic (ps.map pnT)), a4, a5, a6, a7, none, a9, a10] =
      some ((List.range n).map (fun (k : Nat) => dayT (paidL ps (lo + (k : Int)))), [a0, some (.p (.lst [])), a2, some (.dic ((passed ps lo n).map pnT)), a4, a5, a6, a7, none, a9, a10])
  | 0, lo, ps, _, _, _ => rfl
  | n + 1, lo, ps, hn, ho, hl => by
    have ih := days_comp a0 a2 a4 a5 a6 a7 a9 a10 n (lo + 1) (cutL ps lo) (by rw [cutL_names]; exact hn) (cutL_ok lo ho) (by rw [cutL_len]; exact hl)
    have h1 := one_day_ok lo ps hn ho hl
    rw [rngD_cons]
    simp (disch := omega) only [h1, ih, ↓reduceIte, and_self, bindS, mapS, eV_q, kV_p, kV_l, kV_t, eM_q, kM_s, eB_q, kB_s, eC_q, eW_q, kW_p, aN_q, aC_q, kAC_q, kCons_q, aMv_q, kMv_s, kMv2_q, kMv3_s, eL_q, kL_q, eT_q, kT_q, kP_q, kBl_q, kT2_q, eFz_q, kFz_q, eOp_q, kOp1_q, kOp2_q, eCmp_q, kCm1_q, kCm2_q, eNeg_q, kNeg_q, eChain_q, kCh1_q, kCh2_q, kCh3_q, cT_q, kcT_q, cNot_q, kNot_q, cAnd_q, kcAnd_t, kcAnd_f, cOr_q, kcOr_t, kcOr_f, eIf_q, keIf_t, keIf_f, eAnd_q, keAnd_t, keAnd_f, eOr_q, keOr_t, keOr_f, eNot_q, keNot_q, sIf_q, kcIf_t, kcIf_f, eB1_q, kB1_q, eI2_q, kI2_q, eIsi_q, kIsi_q, kLst_q, eList_q, kList_q, kTpl_q, eTuple_q, kTuple_q, eCall_q, kCall_q, kCall2_q, eCallB_q, kCallB_q, kCl_q, allP_n, allP_c, eIx_q, kIx1_q, kIx2_q, oN_q, oS_q, koS_q, eSl_q, kSl1_q, kSl2_q, kSl3_q, cutT_p, cutT_l, sNx_q, sBk_q, sCt_q, sRetN_q, sSeq_q, kSeq_n, kSeq_r, kSeq_b, kSeq_c, sRet_q, kRet_q, sSet_q, kSet_q, sDrop_q, kDrop_q, gNm_q, gEnd_q, gAnd_q, gTp_q, kTp_q, partsT_p, partsT_t, kNx_q, sAsg_q, kAsg_q, sFor_q, kFor_q, loop_n, loop_c, kLp1_q, kLp2_n, kLp2_c, kLp2_b, kLp2_r, iL_q, kiL_q, iTp_q, kiTp_q, iSg_q, kiSg_q, iR1_q, kR1_q, iR2_q, kR2_q, iEn_q, kEn_q, iZp_q, kZp_q, kZp_t, sForV_q, kForV_q, kForV1_q, kForV2_n, kForV2_r, atL_q, kAtL_q, sApp_q, kApp_q, kApp1_q, kApp2_q, sPut_q, kPut_q, kPut1_q, kPut2_q, kPut3_q, kPut4_q, kPutEnd_q, asI_q, sAugIx_q, kAx_q, kAx0_q, kAx1_q, kAx2_q, kAx3_q, kAx4_q, kAx5_q, kAx6_q, kAx7_q, kAx8_q, sAug_q, kAug_q, kAug2_q, kAug3_q, comp_n, comp_c, kCp1_q, kCp2_t, kCp2_f, kCp3_q, kCp4_q, eComp_q, kComp_q, kLs_q, cYes_q, wipe_n, wipe_c, eM1_q, kM11_q, kM12_q, eSplit_q, kSp1_q, kSp2_q, eJoin_q, kJn1_q, kJn2_q, kJn3_q, kJn4_q, eCat_q, kCt0_q, kCt1_q, kCt2_q, kCt3_pl, kCt3_ll, kCt3_lp, kCt3_pp, itemsT_p, itemsT_t, itemsT_ll, isLT_p, isLT_l, eDn_q, eDix_q, kDx1_q, kDx2_q, kDx3_q, kDx4_q, eDget_q, kDg1_q, kDg2_q, kDg3_q, kDg4_q, kDg5_q, eDin_q, kDi1_q, kDi2_q, kDi3_q, kDi4_t, kDi4_f, sPutD_q, kPd1_q, kPd2_q, kPd3_q, kPd4_q, kPd5_q, atD_q, kAtD_q, dicT_p, dicT_o, keyT_i, keyT_s, toD_d, kV_d, sForM_q, kForM_q, loopT_n, loopT_c, kLt1_q, kLt2_n, kLt2_r, eM0_q, kM0_q, iR3_q, runF_q, kRun_r, kRun_n, cutT_s, gStarts, gFind, startE, T.toDs, T.toD, cleanT, tyD, tyOk, List.length_cons, List.length_nil, List.length_map, List.map_cons, List.map_nil, List.replicate, List.cons_append, List.nil_append, List.getElem?_cons_zero, List.getElem?_cons_succ, List.set_cons_zero, List.set_cons_succ, Nat.reduceAdd, Nat.reduceSub, Nat.reduceLT, Nat.reduceLeDiff, Nat.zero_add, gAdd_i, gAdd_g, gSub_i, gAddI_i, gMul_l, gMul_r, gDiv_i, gMod_i, gPow_i, gMulA_g, cLt_i, cLe_i, cGt_i, cGe_i, eqQ_i, neQ_i, eqQ_g, neQ_g, eqQ_ints, neQ_ints, eqQ_b, neQ_b, inQ_g, notInQ_g, gLen_g, gStr_i, gStr_s, gSum_p, gSum_l, gLen_p, gLen_l, toD_l, toDs_p, allP_map, ixT_lst, ixT_pl, ixT_pt, ixT_sg, signsD_g, atI_0, atI_1, atI_2, atI_3, atI_4, atI_5, atI_6, ofS, sg_len, ifLe, ifLt, rng_len, decide_true, decide_false, Bool.false_eq_true, Bool.not_true, Bool.not_false, Int.reduceLT, Int.reduceLE, Int.reduceEq, kit_ii, kit_ib, kit_ll, kit_bb, kit_bi, kit_ss, kit_tt, kit_tl, kit_lt, kit_ls, kit_li, kit_lb, kit_is, kit_si, kit_sb, kit_ti, kit_tb, kit_ts, toKs_pairs, iZpS_q, kZpS_q, iKy, iIts, iVls, List.nil_append, pNm_q, kPN_s, unb_l, unb_d, unb_o, unb_t, unb_p, unb_b, reb_l, reb_d, reb_o, reb_t, reb_p, reb_b, atP_q, kAtP_s, getP_n, getP_c, stepT_k, stepT_ix, stepT_it, stepT_f, putP_q, kPutP_s, setP_n, setP_c, kSP_s, setS_k, setS_ix, setS_it, setS_f, kPF3_q, pFld_q, kPF1_q, kPF2_o, kPF2_b, kPK4_q, pKey_q, kPK0_q, kPK1_q, kPK2_q, kPK3_d, kPK3_b, kPI5_q, kPI4_t, kPI4_l, pIx_q, kPI1_q, kPI2_q, kPI3_l, kPI3_t, eFl_q, kFl_q, valF_o, eDk_q, kDk1_q, kDk2_q, kDk3_q, valK_d, valK_p, sAppP_q, kAp1_q, kAp2_l, kAp2_b, kAp3_q, kAp4_l, kAp4_b, sExtP_q, kEx1_q, kEx2_l, kEx3_q, kEx4_l, sRevP_q, kRv1_q, kRv2_l, sPutP_q, kPp1_q, kPp2_q, kPp3_q, kPp4_q, kPp5_d, kPp5_b, sFldP_q, kFp1_q, kFp2_q, kFp3_o, ePop_q, kPo1_q, kPo2_d, kPo3_q, kPo4_q, kPo5_q, kPo6_d, kPo7_n, kPo7_d, kCM5_q, kCM4_q, kCM3_q, kCM2_q, kCM1_q, eCallM_q, kRM_q, kRM2_r, kRM2_n, runM_q, startM_q, kKl_q, eKeysL_q, kKL_q, keysT_d, kVl_q, eValsL_q, kVL_q, kDC2_q, eDictC_q, kDC_q, kDP3_q, kDP2_q, eDictP_q, kDP_q, iDic_q, kDc_q, kV_dt]
    rw [List.range_succ_eq_map, List.map_cons, List.map_map]
    refine congrArg some (Prod.ext ?_ rfl)
    show _ :: _ = _ :: _
    refine congr (congrArg _ ?_) ?_
    · show _ = dayT (paidL ps (lo + ((0 : Nat) : Int)))
      rw [show lo + ((0 : Nat) : Int) = lo by omega]; unfold dayT; rw [List.map_map]
    · rw [List.map_map]
      refine List.map_congr_left fun k _ => ?_
      show dayT (paidL (cutL ps lo) (lo + 1 + (k : Int))) = dayT (paidL ps (lo + ((k + 1 : Nat) : Int)))
      rw [paid_cut (by omega), show lo + 1 + (k : Int) = lo + ((k + 1 : Nat) : Int) by omega]
/-- what later days bring -/
def pnD (x : Pn) : Key × D := (.inr (sg x.1), .dic (x.2.map plK))
theorem toKs_ps : ∀ ps : List Pn, T.toKs (ps.map pnT) = ps.map pnD
  | [] => rfl
  | x :: ps => by
    rw [List.map_cons, List.map_cons, ← toKs_ps ps]
    show (_, (T.dic (pairsT (x.2.map plK))).toD) :: _ = _
    rw [toD_d]; rfl
theorem toD_ps (ps : List Pn) : (T.dic (ps.map pnT)).toD = .dic (ps.map pnD) := by
  show D.dic (T.toKs (ps.map pnT)) = _
  rw [toKs_ps]
theorem valD_ps : ∀ (ps : List Pn) (x : Pn), (ps.map (·.1)).Nodup → x ∈ ps → valD (ps.map pnD) (.inr (sg x.1)) = some (.dic (x.2.map plK))
  | y :: ps, x, hn, hx => by
    rw [List.map_cons, List.nodup_cons] at hn
    unfold valD
    rw [List.map_cons]
    by_cases q : y.1 = x.1
    · rw [List.find?_cons_of_pos (by simp [pnD, q])]
      rcases List.mem_cons.mp hx with rfl | hx
      · rfl
      · exact absurd (q ▸ List.mem_map_of_mem hx) hn.1
    · rw [List.find?_cons_of_neg (by
        rw [decide_eq_true_eq]
        exact fun e => q (sg_inj.mp (Sum.inr.inj e)))]
      rcases List.mem_cons.mp hx with rfl | hx
      · exact absurd rfl q
      · exact valD_ps ps x hn.2 hx
def sumP (l : List Pl) : Int := (l.map (·.2)).sum
def leftL (ps : List Pn) : List Rw := (ps.filter fun x => decide (0 < sumP x.2)).map fun x => (x.1, sumP x.2)
theorem left_loop (a0 a1 a2 a5 a6 a7 a8 : Option T) (ps : List Pn) (hn : (ps.map (·.1)).Nodup) (hl : ps.length ≤ 1000) (a4 a10 : Option T) :
    ∃ b4 b10, loopD (gNm 4) B_told_days_2 ((ps.map pnD).map fun kv => kD kv.1) [a0, a1, a2, some (.p (.dic (ps.map pnD))), a4, a5, a6, a7, a8, some (.lst []), a10] =
      some (.nx, [a0, a1, a2, some (.p (.dic (ps.map pnD))), b4, a5, a6, a7, a8, some (.lst (((leftL ps).map rwD).map T.p)), b10]) := by
  have hk : (ps.map pnD).map (fun kv => kD kv.1) = ps.map fun x => D.str (sg x.1) := by rw [List.map_map]; rfl
  rw [hk]
  obtain ⟨e, h1, b4, b10, he⟩ := loop_img0 (G := gNm 4) (F := B_told_days_2) (fun x : Pn => D.str (sg x.1)) (fun done e => ∃ b4 b10, e = [a0, a1, a2, some (.p (.dic (ps.map pnD))), b4, a5, a6, a7, a8, some (.lst (((leftL done).map rwD).map T.p)), b10]) ps
    (env := [a0, a1, a2, some (.p (.dic (ps.map pnD))), a4, a5, a6, a7, a8, some (.lst []), a10]) ⟨a4, a10, rfl⟩ (by
    rintro pre x post e hp ⟨b4, b10, rfl⟩
    have v1 := valD_ps ps x hn (by rw [hp]; simp)
    have sv : ((x.2.map plK).map fun kv => kv.2) = (x.2.map (·.2)).map D.int := by rw [List.map_map, List.map_map]; rfl
    have hll : (leftL pre).length < 16000000 := by
      unfold leftL
      rw [List.length_map]
      have h1 := List.length_filter_le (fun x : Pn => decide (0 < sumP x.2)) pre
      have h2 := congrArg List.length hp
      simp at h2; omega
    have hs : sumP x.2 = (x.2.map (·.2)).sum := rfl
    have app : leftL (pre ++ [x]) = leftL pre ++ (if 0 < sumP x.2 then [(x.1, sumP x.2)] else []) := by
      unfold leftL
      rw [List.filter_append, List.map_append]
      by_cases q : 0 < sumP x.2
      · rw [if_pos q]; simp [q]
      · rw [if_neg q]; simp [q]
    by_cases q : 0 < sumP x.2
    · refine ⟨[a0, a1, a2, some (.p (.dic (ps.map pnD))), some (.p (.str (sg x.1))), a5, a6, a7, a8, some (.lst (((leftL (pre ++ [x])).map rwD).map T.p)), some (.p (.int (sumP x.2)))], .inl ?_, _, _, rfl⟩
      rw [app, if_pos q]
      rw [hs] at q ⊢
      simp (disch := omega) only [B_told_days_2, v1, sv, q, hll, gT_pair, ↓reduceIte, and_self, bindS, mapS, eV_q, kV_p, kV_l, kV_t, eM_q, kM_s, eB_q, kB_s, eC_q, eW_q, kW_p, aN_q, aC_q, kAC_q, kCons_q, aMv_q, kMv_s, kMv2_q, kMv3_s, eL_q, kL_q, eT_q, kT_q, kP_q, kBl_q, kT2_q, eFz_q, kFz_q, eOp_q, kOp1_q, kOp2_q, eCmp_q, kCm1_q, kCm2_q, eNeg_q, kNeg_q, eChain_q, kCh1_q, kCh2_q, kCh3_q, cT_q, kcT_q, cNot_q, kNot_q, cAnd_q, kcAnd_t, kcAnd_f, cOr_q, kcOr_t, kcOr_f, eIf_q, keIf_t, keIf_f, eAnd_q, keAnd_t, keAnd_f, eOr_q, keOr_t, keOr_f, eNot_q, keNot_q, sIf_q, kcIf_t, kcIf_f, eB1_q, kB1_q, eI2_q, kI2_q, eIsi_q, kIsi_q, kLst_q, eList_q, kList_q, kTpl_q, eTuple_q, kTuple_q, eCall_q, kCall_q, kCall2_q, eCallB_q, kCallB_q, kCl_q, allP_n, allP_c, eIx_q, kIx1_q, kIx2_q, oN_q, oS_q, koS_q, eSl_q, kSl1_q, kSl2_q, kSl3_q, cutT_p, cutT_l, sNx_q, sBk_q, sCt_q, sRetN_q, sSeq_q, kSeq_n, kSeq_r, kSeq_b, kSeq_c, sRet_q, kRet_q, sSet_q, kSet_q, sDrop_q, kDrop_q, gNm_q, gEnd_q, gAnd_q, gTp_q, kTp_q, partsT_p, partsT_t, kNx_q, sAsg_q, kAsg_q, sFor_q, kFor_q, loop_n, loop_c, kLp1_q, kLp2_n, kLp2_c, kLp2_b, kLp2_r, iL_q, kiL_q, iTp_q, kiTp_q, iSg_q, kiSg_q, iR1_q, kR1_q, iR2_q, kR2_q, iEn_q, kEn_q, iZp_q, kZp_q, kZp_t, sForV_q, kForV_q, kForV1_q, kForV2_n, kForV2_r, atL_q, kAtL_q, sApp_q, kApp_q, kApp1_q, kApp2_q, sPut_q, kPut_q, kPut1_q, kPut2_q, kPut3_q, kPut4_q, kPutEnd_q, asI_q, sAugIx_q, kAx_q, kAx0_q, kAx1_q, kAx2_q, kAx3_q, kAx4_q, kAx5_q, kAx6_q, kAx7_q, kAx8_q, sAug_q, kAug_q, kAug2_q, kAug3_q, comp_n, comp_c, kCp1_q, kCp2_t, kCp2_f, kCp3_q, kCp4_q, eComp_q, kComp_q, kLs_q, cYes_q, wipe_n, wipe_c, eM1_q, kM11_q, kM12_q, eSplit_q, kSp1_q, kSp2_q, eJoin_q, kJn1_q, kJn2_q, kJn3_q, kJn4_q, eCat_q, kCt0_q, kCt1_q, kCt2_q, kCt3_pl, kCt3_ll, kCt3_lp, kCt3_pp, itemsT_p, itemsT_t, itemsT_ll, isLT_p, isLT_l, eDn_q, eDix_q, kDx1_q, kDx2_q, kDx3_q, kDx4_q, eDget_q, kDg1_q, kDg2_q, kDg3_q, kDg4_q, kDg5_q, eDin_q, kDi1_q, kDi2_q, kDi3_q, kDi4_t, kDi4_f, sPutD_q, kPd1_q, kPd2_q, kPd3_q, kPd4_q, kPd5_q, atD_q, kAtD_q, dicT_p, dicT_o, keyT_i, keyT_s, toD_d, kV_d, sForM_q, kForM_q, loopT_n, loopT_c, kLt1_q, kLt2_n, kLt2_r, eM0_q, kM0_q, iR3_q, runF_q, kRun_r, kRun_n, cutT_s, gStarts, gFind, startE, T.toDs, T.toD, cleanT, tyD, tyOk, List.length_cons, List.length_nil, List.length_map, List.map_cons, List.map_nil, List.replicate, List.cons_append, List.nil_append, List.getElem?_cons_zero, List.getElem?_cons_succ, List.set_cons_zero, List.set_cons_succ, Nat.reduceAdd, Nat.reduceSub, Nat.reduceLT, Nat.reduceLeDiff, Nat.zero_add, gAdd_i, gAdd_g, gSub_i, gAddI_i, gMul_l, gMul_r, gDiv_i, gMod_i, gPow_i, gMulA_g, cLt_i, cLe_i, cGt_i, cGe_i, eqQ_i, neQ_i, eqQ_g, neQ_g, eqQ_ints, neQ_ints, eqQ_b, neQ_b, inQ_g, notInQ_g, gLen_g, gStr_i, gStr_s, gSum_p, gSum_l, gLen_p, gLen_l, toD_l, toDs_p, allP_map, ixT_lst, ixT_pl, ixT_pt, ixT_sg, signsD_g, atI_0, atI_1, atI_2, atI_3, atI_4, atI_5, atI_6, ofS, sg_len, ifLe, ifLt, rng_len, decide_true, decide_false, Bool.false_eq_true, Bool.not_true, Bool.not_false, Int.reduceLT, Int.reduceLE, Int.reduceEq, kit_ii, kit_ib, kit_ll, kit_bb, kit_bi, kit_ss, kit_tt, kit_tl, kit_lt, kit_ls, kit_li, kit_lb, kit_is, kit_si, kit_sb, kit_ti, kit_tb, kit_ts, toKs_pairs, iZpS_q, kZpS_q, iKy, iIts, iVls, List.nil_append, pNm_q, kPN_s, unb_l, unb_d, unb_o, unb_t, unb_p, unb_b, reb_l, reb_d, reb_o, reb_t, reb_p, reb_b, atP_q, kAtP_s, getP_n, getP_c, stepT_k, stepT_ix, stepT_it, stepT_f, putP_q, kPutP_s, setP_n, setP_c, kSP_s, setS_k, setS_ix, setS_it, setS_f, kPF3_q, pFld_q, kPF1_q, kPF2_o, kPF2_b, kPK4_q, pKey_q, kPK0_q, kPK1_q, kPK2_q, kPK3_d, kPK3_b, kPI5_q, kPI4_t, kPI4_l, pIx_q, kPI1_q, kPI2_q, kPI3_l, kPI3_t, eFl_q, kFl_q, valF_o, eDk_q, kDk1_q, kDk2_q, kDk3_q, valK_d, valK_p, sAppP_q, kAp1_q, kAp2_l, kAp2_b, kAp3_q, kAp4_l, kAp4_b, sExtP_q, kEx1_q, kEx2_l, kEx3_q, kEx4_l, sRevP_q, kRv1_q, kRv2_l, sPutP_q, kPp1_q, kPp2_q, kPp3_q, kPp4_q, kPp5_d, kPp5_b, sFldP_q, kFp1_q, kFp2_q, kFp3_o, ePop_q, kPo1_q, kPo2_d, kPo3_q, kPo4_q, kPo5_q, kPo6_d, kPo7_n, kPo7_d, kCM5_q, kCM4_q, kCM3_q, kCM2_q, kCM1_q, eCallM_q, kRM_q, kRM2_r, kRM2_n, runM_q, startM_q, kKl_q, eKeysL_q, kKL_q, keysT_d, kVl_q, eValsL_q, kVL_q, kDC2_q, eDictC_q, kDC_q, kDP3_q, kDP2_q, eDictP_q, kDP_q, iDic_q, kDc_q, kV_dt]
      simp [rwD]
    · refine ⟨[a0, a1, a2, some (.p (.dic (ps.map pnD))), some (.p (.str (sg x.1))), a5, a6, a7, a8, some (.lst (((leftL (pre ++ [x])).map rwD).map T.p)), some (.p (.int (sumP x.2)))], .inl ?_, _, _, rfl⟩
      rw [app, if_neg q]
      rw [hs] at q ⊢
      simp (disch := omega) only [B_told_days_2, v1, sv, q, gT_pair, ↓reduceIte, and_self, bindS, mapS, eV_q, kV_p, kV_l, kV_t, eM_q, kM_s, eB_q, kB_s, eC_q, eW_q, kW_p, aN_q, aC_q, kAC_q, kCons_q, aMv_q, kMv_s, kMv2_q, kMv3_s, eL_q, kL_q, eT_q, kT_q, kP_q, kBl_q, kT2_q, eFz_q, kFz_q, eOp_q, kOp1_q, kOp2_q, eCmp_q, kCm1_q, kCm2_q, eNeg_q, kNeg_q, eChain_q, kCh1_q, kCh2_q, kCh3_q, cT_q, kcT_q, cNot_q, kNot_q, cAnd_q, kcAnd_t, kcAnd_f, cOr_q, kcOr_t, kcOr_f, eIf_q, keIf_t, keIf_f, eAnd_q, keAnd_t, keAnd_f, eOr_q, keOr_t, keOr_f, eNot_q, keNot_q, sIf_q, kcIf_t, kcIf_f, eB1_q, kB1_q, eI2_q, kI2_q, eIsi_q, kIsi_q, kLst_q, eList_q, kList_q, kTpl_q, eTuple_q, kTuple_q, eCall_q, kCall_q, kCall2_q, eCallB_q, kCallB_q, kCl_q, allP_n, allP_c, eIx_q, kIx1_q, kIx2_q, oN_q, oS_q, koS_q, eSl_q, kSl1_q, kSl2_q, kSl3_q, cutT_p, cutT_l, sNx_q, sBk_q, sCt_q, sRetN_q, sSeq_q, kSeq_n, kSeq_r, kSeq_b, kSeq_c, sRet_q, kRet_q, sSet_q, kSet_q, sDrop_q, kDrop_q, gNm_q, gEnd_q, gAnd_q, gTp_q, kTp_q, partsT_p, partsT_t, kNx_q, sAsg_q, kAsg_q, sFor_q, kFor_q, loop_n, loop_c, kLp1_q, kLp2_n, kLp2_c, kLp2_b, kLp2_r, iL_q, kiL_q, iTp_q, kiTp_q, iSg_q, kiSg_q, iR1_q, kR1_q, iR2_q, kR2_q, iEn_q, kEn_q, iZp_q, kZp_q, kZp_t, sForV_q, kForV_q, kForV1_q, kForV2_n, kForV2_r, atL_q, kAtL_q, sApp_q, kApp_q, kApp1_q, kApp2_q, sPut_q, kPut_q, kPut1_q, kPut2_q, kPut3_q, kPut4_q, kPutEnd_q, asI_q, sAugIx_q, kAx_q, kAx0_q, kAx1_q, kAx2_q, kAx3_q, kAx4_q, kAx5_q, kAx6_q, kAx7_q, kAx8_q, sAug_q, kAug_q, kAug2_q, kAug3_q, comp_n, comp_c, kCp1_q, kCp2_t, kCp2_f, kCp3_q, kCp4_q, eComp_q, kComp_q, kLs_q, cYes_q, wipe_n, wipe_c, eM1_q, kM11_q, kM12_q, eSplit_q, kSp1_q, kSp2_q, eJoin_q, kJn1_q, kJn2_q, kJn3_q, kJn4_q, eCat_q, kCt0_q, kCt1_q, kCt2_q, kCt3_pl, kCt3_ll, kCt3_lp, kCt3_pp, itemsT_p, itemsT_t, itemsT_ll, isLT_p, isLT_l, eDn_q, eDix_q, kDx1_q, kDx2_q, kDx3_q, kDx4_q, eDget_q, kDg1_q, kDg2_q, kDg3_q, kDg4_q, kDg5_q, eDin_q, kDi1_q, kDi2_q, kDi3_q, kDi4_t, kDi4_f, sPutD_q, kPd1_q, kPd2_q, kPd3_q, kPd4_q, kPd5_q, atD_q, kAtD_q, dicT_p, dicT_o, keyT_i, keyT_s, toD_d, kV_d, sForM_q, kForM_q, loopT_n, loopT_c, kLt1_q, kLt2_n, kLt2_r, eM0_q, kM0_q, iR3_q, runF_q, kRun_r, kRun_n, cutT_s, gStarts, gFind, startE, T.toDs, T.toD, cleanT, tyD, tyOk, List.length_cons, List.length_nil, List.length_map, List.map_cons, List.map_nil, List.replicate, List.cons_append, List.nil_append, List.getElem?_cons_zero, List.getElem?_cons_succ, List.set_cons_zero, List.set_cons_succ, Nat.reduceAdd, Nat.reduceSub, Nat.reduceLT, Nat.reduceLeDiff, Nat.zero_add, gAdd_i, gAdd_g, gSub_i, gAddI_i, gMul_l, gMul_r, gDiv_i, gMod_i, gPow_i, gMulA_g, cLt_i, cLe_i, cGt_i, cGe_i, eqQ_i, neQ_i, eqQ_g, neQ_g, eqQ_ints, neQ_ints, eqQ_b, neQ_b, inQ_g, notInQ_g, gLen_g, gStr_i, gStr_s, gSum_p, gSum_l, gLen_p, gLen_l, toD_l, toDs_p, allP_map, ixT_lst, ixT_pl, ixT_pt, ixT_sg, signsD_g, atI_0, atI_1, atI_2, atI_3, atI_4, atI_5, atI_6, ofS, sg_len, ifLe, ifLt, rng_len, decide_true, decide_false, Bool.false_eq_true, Bool.not_true, Bool.not_false, Int.reduceLT, Int.reduceLE, Int.reduceEq, kit_ii, kit_ib, kit_ll, kit_bb, kit_bi, kit_ss, kit_tt, kit_tl, kit_lt, kit_ls, kit_li, kit_lb, kit_is, kit_si, kit_sb, kit_ti, kit_tb, kit_ts, toKs_pairs, iZpS_q, kZpS_q, iKy, iIts, iVls, List.nil_append, pNm_q, kPN_s, unb_l, unb_d, unb_o, unb_t, unb_p, unb_b, reb_l, reb_d, reb_o, reb_t, reb_p, reb_b, atP_q, kAtP_s, getP_n, getP_c, stepT_k, stepT_ix, stepT_it, stepT_f, putP_q, kPutP_s, setP_n, setP_c, kSP_s, setS_k, setS_ix, setS_it, setS_f, kPF3_q, pFld_q, kPF1_q, kPF2_o, kPF2_b, kPK4_q, pKey_q, kPK0_q, kPK1_q, kPK2_q, kPK3_d, kPK3_b, kPI5_q, kPI4_t, kPI4_l, pIx_q, kPI1_q, kPI2_q, kPI3_l, kPI3_t, eFl_q, kFl_q, valF_o, eDk_q, kDk1_q, kDk2_q, kDk3_q, valK_d, valK_p, sAppP_q, kAp1_q, kAp2_l, kAp2_b, kAp3_q, kAp4_l, kAp4_b, sExtP_q, kEx1_q, kEx2_l, kEx3_q, kEx4_l, sRevP_q, kRv1_q, kRv2_l, sPutP_q, kPp1_q, kPp2_q, kPp3_q, kPp4_q, kPp5_d, kPp5_b, sFldP_q, kFp1_q, kFp2_q, kFp3_o, ePop_q, kPo1_q, kPo2_d, kPo3_q, kPo4_q, kPo5_q, kPo6_d, kPo7_n, kPo7_d, kCM5_q, kCM4_q, kCM3_q, kCM2_q, kCM1_q, eCallM_q, kRM_q, kRM2_r, kRM2_n, runM_q, startM_q, kKl_q, eKeysL_q, kKL_q, keysT_d, kVl_q, eValsL_q, kVL_q, kDC2_q, eDictC_q, kDC_q, kDP3_q, kDP2_q, eDictP_q, kDP_q, iDic_q, kDc_q, kV_dt]
      simp)
  subst he
  exact ⟨b4, b10, h1⟩
abbrev Debt := List Nat × List Nat × List Pl
def debtD (b : Debt) : D := .tup [.str (sg b.1), .str (sg b.2.1), .lst (b.2.2.map plD)]
def toPn (b : Debt) : Pn := (b.1, b.2.2)
theorem plans_loop (a0 a1 a2 : Option T) (bs : List Debt) (hn : (bs.map (·.1)).Nodup) (ho : ∀ b ∈ bs, (b.2.2.map (·.1)).Nodup) (hl : bs.length ≤ 1000) :
    ∃ b4 b5 b6, loopD (gTp 3 (gAnd (gNm 4) (gAnd (gNm 5) (gAnd (gNm 6) gEnd)))) B_told_days_1 (bs.map debtD) [a0, a1, a2, some (.dic (pairsT [])), none, none, none, none, none, none, none] =
      some (.nx, [a0, a1, a2, some (.dic ((bs.map toPn).map pnT)), b4, b5, b6, none, none, none, none]) := by
  obtain ⟨e, h1, b4, b5, b6, he⟩ := loop_img0 (G := gTp 3 (gAnd (gNm 4) (gAnd (gNm 5) (gAnd (gNm 6) gEnd)))) (F := B_told_days_1) debtD (fun done e => ∃ b4 b5 b6, e = [a0, a1, a2, some (.dic ((done.map toPn).map pnT)), b4, b5, b6, none, none, none, none]) bs
    (env := [a0, a1, a2, some (.dic (pairsT [])), none, none, none, none, none, none, none]) ⟨none, none, none, rfl⟩ (by
    rintro pre x post e hp ⟨b4, b5, b6, rfl⟩
    have hnx : x.1 ∉ (pre.map toPn).map (·.1) := by
      rw [hp, List.map_append, List.map_cons] at hn
      intro hm
      have : (pre.map toPn).map (·.1) = pre.map (·.1) := by rw [List.map_map]; rfl
      rw [this] at hm
      exact (List.nodup_append.mp hn).2.2 _ hm _ (by simp) rfl
    have hd := pairs_ok x.2.2
    have hm := merge_ok (ho x (by rw [hp]; simp))
    have p1 := fun u => put_at (u := u) hnx
    have hlp : ((pre.map toPn).map pnT).length < 16000000 := by
      have h2 := congrArg List.length hp
      simp at h2 ⊢; omega
    have hok : ∀ u, okPut ((pre.map toPn).map pnT) (.inr (sg x.1)) u = true := fun u => by
      unfold okPut; rw [cnt_at hnx]; simp
    obtain ⟨x1, x2, x3⟩ := x
    refine ⟨[a0, a1, a2, some (.dic (((pre ++ [(x1, x2, x3)]).map toPn).map pnT)), some (.p (.str (sg x1))), some (.p (.str (sg x2))), some (.p (.lst (x3.map plD))), none, none, none, none], .inl ?_, _, _, _, rfl⟩
    rw [show debtD (x1, x2, x3) = .tup [.str (sg x1), .str (sg x2), .lst (x3.map plD)] from rfl]
    simp (disch := omega) only [B_told_days_1, hd, hm, p1, hlp, hok, ↓reduceIte, and_self, bindS, mapS, eV_q, kV_p, kV_l, kV_t, eM_q, kM_s, eB_q, kB_s, eC_q, eW_q, kW_p, aN_q, aC_q, kAC_q, kCons_q, aMv_q, kMv_s, kMv2_q, kMv3_s, eL_q, kL_q, eT_q, kT_q, kP_q, kBl_q, kT2_q, eFz_q, kFz_q, eOp_q, kOp1_q, kOp2_q, eCmp_q, kCm1_q, kCm2_q, eNeg_q, kNeg_q, eChain_q, kCh1_q, kCh2_q, kCh3_q, cT_q, kcT_q, cNot_q, kNot_q, cAnd_q, kcAnd_t, kcAnd_f, cOr_q, kcOr_t, kcOr_f, eIf_q, keIf_t, keIf_f, eAnd_q, keAnd_t, keAnd_f, eOr_q, keOr_t, keOr_f, eNot_q, keNot_q, sIf_q, kcIf_t, kcIf_f, eB1_q, kB1_q, eI2_q, kI2_q, eIsi_q, kIsi_q, kLst_q, eList_q, kList_q, kTpl_q, eTuple_q, kTuple_q, eCall_q, kCall_q, kCall2_q, eCallB_q, kCallB_q, kCl_q, allP_n, allP_c, eIx_q, kIx1_q, kIx2_q, oN_q, oS_q, koS_q, eSl_q, kSl1_q, kSl2_q, kSl3_q, cutT_p, cutT_l, sNx_q, sBk_q, sCt_q, sRetN_q, sSeq_q, kSeq_n, kSeq_r, kSeq_b, kSeq_c, sRet_q, kRet_q, sSet_q, kSet_q, sDrop_q, kDrop_q, gNm_q, gEnd_q, gAnd_q, gTp_q, kTp_q, partsT_p, partsT_t, kNx_q, sAsg_q, kAsg_q, sFor_q, kFor_q, loop_n, loop_c, kLp1_q, kLp2_n, kLp2_c, kLp2_b, kLp2_r, iL_q, kiL_q, iTp_q, kiTp_q, iSg_q, kiSg_q, iR1_q, kR1_q, iR2_q, kR2_q, iEn_q, kEn_q, iZp_q, kZp_q, kZp_t, sForV_q, kForV_q, kForV1_q, kForV2_n, kForV2_r, atL_q, kAtL_q, sApp_q, kApp_q, kApp1_q, kApp2_q, sPut_q, kPut_q, kPut1_q, kPut2_q, kPut3_q, kPut4_q, kPutEnd_q, asI_q, sAugIx_q, kAx_q, kAx0_q, kAx1_q, kAx2_q, kAx3_q, kAx4_q, kAx5_q, kAx6_q, kAx7_q, kAx8_q, sAug_q, kAug_q, kAug2_q, kAug3_q, comp_n, comp_c, kCp1_q, kCp2_t, kCp2_f, kCp3_q, kCp4_q, eComp_q, kComp_q, kLs_q, cYes_q, wipe_n, wipe_c, eM1_q, kM11_q, kM12_q, eSplit_q, kSp1_q, kSp2_q, eJoin_q, kJn1_q, kJn2_q, kJn3_q, kJn4_q, eCat_q, kCt0_q, kCt1_q, kCt2_q, kCt3_pl, kCt3_ll, kCt3_lp, kCt3_pp, itemsT_p, itemsT_t, itemsT_ll, isLT_p, isLT_l, eDn_q, eDix_q, kDx1_q, kDx2_q, kDx3_q, kDx4_q, eDget_q, kDg1_q, kDg2_q, kDg3_q, kDg4_q, kDg5_q, eDin_q, kDi1_q, kDi2_q, kDi3_q, kDi4_t, kDi4_f, sPutD_q, kPd1_q, kPd2_q, kPd3_q, kPd4_q, kPd5_q, atD_q, kAtD_q, dicT_p, dicT_o, keyT_i, keyT_s, toD_d, kV_d, sForM_q, kForM_q, loopT_n, loopT_c, kLt1_q, kLt2_n, kLt2_r, eM0_q, kM0_q, iR3_q, runF_q, kRun_r, kRun_n, cutT_s, gStarts, gFind, startE, T.toDs, T.toD, cleanT, tyD, tyOk, List.length_cons, List.length_nil, List.map_cons, List.map_nil, List.replicate, List.cons_append, List.nil_append, List.getElem?_cons_zero, List.getElem?_cons_succ, List.set_cons_zero, List.set_cons_succ, Nat.reduceAdd, Nat.reduceSub, Nat.reduceLT, Nat.reduceLeDiff, Nat.zero_add, gAdd_i, gAdd_g, gSub_i, gAddI_i, gMul_l, gMul_r, gDiv_i, gMod_i, gPow_i, gMulA_g, cLt_i, cLe_i, cGt_i, cGe_i, eqQ_i, neQ_i, eqQ_g, neQ_g, eqQ_ints, neQ_ints, eqQ_b, neQ_b, inQ_g, notInQ_g, gLen_g, gStr_i, gStr_s, gSum_p, gSum_l, gLen_p, gLen_l, toD_l, toDs_p, allP_map, ixT_lst, ixT_pl, ixT_pt, ixT_sg, signsD_g, atI_0, atI_1, atI_2, atI_3, atI_4, atI_5, atI_6, ofS, sg_len, ifLe, ifLt, rng_len, decide_true, decide_false, Bool.false_eq_true, Bool.not_true, Bool.not_false, Int.reduceLT, Int.reduceLE, Int.reduceEq, kit_ii, kit_ib, kit_ll, kit_bb, kit_bi, kit_ss, kit_tt, kit_tl, kit_lt, kit_ls, kit_li, kit_lb, kit_is, kit_si, kit_sb, kit_ti, kit_tb, kit_ts, toKs_pairs, iZpS_q, kZpS_q, iKy, iIts, iVls, List.nil_append, pNm_q, kPN_s, unb_l, unb_d, unb_o, unb_t, unb_p, unb_b, reb_l, reb_d, reb_o, reb_t, reb_p, reb_b, atP_q, kAtP_s, getP_n, getP_c, stepT_k, stepT_ix, stepT_it, stepT_f, putP_q, kPutP_s, setP_n, setP_c, kSP_s, setS_k, setS_ix, setS_it, setS_f, kPF3_q, pFld_q, kPF1_q, kPF2_o, kPF2_b, kPK4_q, pKey_q, kPK0_q, kPK1_q, kPK2_q, kPK3_d, kPK3_b, kPI5_q, kPI4_t, kPI4_l, pIx_q, kPI1_q, kPI2_q, kPI3_l, kPI3_t, eFl_q, kFl_q, valF_o, eDk_q, kDk1_q, kDk2_q, kDk3_q, valK_d, valK_p, sAppP_q, kAp1_q, kAp2_l, kAp2_b, kAp3_q, kAp4_l, kAp4_b, sExtP_q, kEx1_q, kEx2_l, kEx3_q, kEx4_l, sRevP_q, kRv1_q, kRv2_l, sPutP_q, kPp1_q, kPp2_q, kPp3_q, kPp4_q, kPp5_d, kPp5_b, sFldP_q, kFp1_q, kFp2_q, kFp3_o, ePop_q, kPo1_q, kPo2_d, kPo3_q, kPo4_q, kPo5_q, kPo6_d, kPo7_n, kPo7_d, kCM5_q, kCM4_q, kCM3_q, kCM2_q, kCM1_q, eCallM_q, kRM_q, kRM2_r, kRM2_n, runM_q, startM_q, kKl_q, eKeysL_q, kKL_q, keysT_d, kVl_q, eValsL_q, kVL_q, kDC2_q, eDictC_q, kDC_q, kDP3_q, kDP2_q, eDictP_q, kDP_q, iDic_q, kDc_q, kV_dt]
    simp [toPn, pnT])
  subst he
  exact ⟨b4, b5, b6, h1⟩
def BsOk (bs : List Debt) : Prop := (bs.map (·.1)).Nodup ∧ (∀ b ∈ bs, PnOk (toPn b)) ∧ bs.length ≤ 1000
theorem toPn_names (bs : List Debt) : (bs.map toPn).map (·.1) = bs.map (·.1) := by rw [List.map_map]; rfl
theorem passed_names : ∀ (n : Nat) (ps : List Pn) (lo : Int), (passed ps lo n).map (·.1) = ps.map (·.1)
  | 0, _, _ => rfl
  | n + 1, ps, lo => by
    show (passed (cutL ps lo) (lo + 1) n).map _ = _
    rw [passed_names n, cutL_names]
theorem passed_len (n : Nat) (ps : List Pn) (lo : Int) : (passed ps lo n).length = ps.length := by
  have := congrArg List.length (passed_names n ps lo)
  simpa using this
def toldT (bs : List Debt) (n : Nat) : T := .tup [.lst ((List.range n).map (fun (k : Nat) => dayT (paidL (bs.map toPn) (1 + (k : Int))))), .lst (((leftL (passed (bs.map toPn) 1 n)).map rwD).map T.p)]
theorem told_ok {bs : List Debt} (h : BsOk bs) {many : Int} (hm : 0 ≤ many ∧ many ≤ 1000) : phi_told_days [.lst (bs.map debtD), .lst [], .int many] = some (toldT bs many.toNat) := by
  obtain ⟨hn, ho, hl⟩ := h
  obtain ⟨b4, b5, b6, h1⟩ := plans_loop (some (.p (.lst (bs.map debtD)))) (some (.p (.lst []))) (some (.p (.int many))) bs hn (fun b hb => (ho b hb).1) hl
  have hn2 : ((bs.map toPn).map (·.1)).Nodup := by rw [toPn_names]; exact hn
  have ho2 : ∀ x ∈ bs.map toPn, PnOk x := fun x hx => by
    obtain ⟨b, hb, rfl⟩ := List.mem_map.mp hx
    exact ho b hb
  have h2 := days_comp (some (.p (.lst (bs.map debtD)))) (some (.p (.int many))) b4 b5 b6 none none none many.toNat 1 (bs.map toPn) hn2 ho2 (by simpa using hl)
  have hr : (rngD 1 many.toNat).length ≤ 1000000 := by rw [rng_len]; omega
  have e1 : (many + 1 - 1).toNat = many.toNat := by congr 1; omega
  have hps := toD_ps (passed (bs.map toPn) 1 many.toNat)
  obtain ⟨c4, c10, h3⟩ := left_loop (some (.p (.lst (bs.map debtD)))) (some (.p (.lst []))) (some (.p (.int many))) b5 b6 (some (.lst ((List.range many.toNat).map (fun (k : Nat) => dayT (paidL (bs.map toPn) (1 + (k : Int))))))) none (passed (bs.map toPn) 1 many.toNat) (by rw [passed_names]; exact hn2) (by rw [passed_len]; simpa using hl) b4 none
  unfold phi_told_days F_told_days
  simp (disch := omega) only [h1, e1, h2, hr, kV_dt, toKs_ps, h3, ↓reduceIte, and_self, bindS, mapS, eV_q, kV_p, kV_l, kV_t, eM_q, kM_s, eB_q, kB_s, eC_q, eW_q, kW_p, aN_q, aC_q, kAC_q, kCons_q, aMv_q, kMv_s, kMv2_q, kMv3_s, eL_q, kL_q, eT_q, kT_q, kP_q, kBl_q, kT2_q, eFz_q, kFz_q, eOp_q, kOp1_q, kOp2_q, eCmp_q, kCm1_q, kCm2_q, eNeg_q, kNeg_q, eChain_q, kCh1_q, kCh2_q, kCh3_q, cT_q, kcT_q, cNot_q, kNot_q, cAnd_q, kcAnd_t, kcAnd_f, cOr_q, kcOr_t, kcOr_f, eIf_q, keIf_t, keIf_f, eAnd_q, keAnd_t, keAnd_f, eOr_q, keOr_t, keOr_f, eNot_q, keNot_q, sIf_q, kcIf_t, kcIf_f, eB1_q, kB1_q, eI2_q, kI2_q, eIsi_q, kIsi_q, kLst_q, eList_q, kList_q, kTpl_q, eTuple_q, kTuple_q, eCall_q, kCall_q, kCall2_q, eCallB_q, kCallB_q, kCl_q, allP_n, allP_c, eIx_q, kIx1_q, kIx2_q, oN_q, oS_q, koS_q, eSl_q, kSl1_q, kSl2_q, kSl3_q, cutT_p, cutT_l, sNx_q, sBk_q, sCt_q, sRetN_q, sSeq_q, kSeq_n, kSeq_r, kSeq_b, kSeq_c, sRet_q, kRet_q, sSet_q, kSet_q, sDrop_q, kDrop_q, gNm_q, gEnd_q, gAnd_q, gTp_q, kTp_q, partsT_p, partsT_t, kNx_q, sAsg_q, kAsg_q, sFor_q, kFor_q, loop_n, loop_c, kLp1_q, kLp2_n, kLp2_c, kLp2_b, kLp2_r, iL_q, kiL_q, iTp_q, kiTp_q, iSg_q, kiSg_q, iR1_q, kR1_q, iR2_q, kR2_q, iEn_q, kEn_q, iZp_q, kZp_q, kZp_t, sForV_q, kForV_q, kForV1_q, kForV2_n, kForV2_r, atL_q, kAtL_q, sApp_q, kApp_q, kApp1_q, kApp2_q, sPut_q, kPut_q, kPut1_q, kPut2_q, kPut3_q, kPut4_q, kPutEnd_q, asI_q, sAugIx_q, kAx_q, kAx0_q, kAx1_q, kAx2_q, kAx3_q, kAx4_q, kAx5_q, kAx6_q, kAx7_q, kAx8_q, sAug_q, kAug_q, kAug2_q, kAug3_q, comp_n, comp_c, kCp1_q, kCp2_t, kCp2_f, kCp3_q, kCp4_q, eComp_q, kComp_q, kLs_q, cYes_q, wipe_n, wipe_c, eM1_q, kM11_q, kM12_q, eSplit_q, kSp1_q, kSp2_q, eJoin_q, kJn1_q, kJn2_q, kJn3_q, kJn4_q, eCat_q, kCt0_q, kCt1_q, kCt2_q, kCt3_pl, kCt3_ll, kCt3_lp, kCt3_pp, itemsT_p, itemsT_t, itemsT_ll, isLT_p, isLT_l, eDn_q, eDix_q, kDx1_q, kDx2_q, kDx3_q, kDx4_q, eDget_q, kDg1_q, kDg2_q, kDg3_q, kDg4_q, kDg5_q, eDin_q, kDi1_q, kDi2_q, kDi3_q, kDi4_t, kDi4_f, sPutD_q, kPd1_q, kPd2_q, kPd3_q, kPd4_q, kPd5_q, atD_q, kAtD_q, dicT_p, dicT_o, keyT_i, keyT_s, toD_d, kV_d, sForM_q, kForM_q, loopT_n, loopT_c, kLt1_q, kLt2_n, kLt2_r, eM0_q, kM0_q, iR3_q, runF_q, kRun_r, kRun_n, cutT_s, gStarts, gFind, startE, T.toDs, T.toD, cleanT, tyD, tyOk, List.length_cons, List.length_nil, List.map_cons, List.map_nil, List.replicate, List.cons_append, List.nil_append, List.getElem?_cons_zero, List.getElem?_cons_succ, List.set_cons_zero, List.set_cons_succ, Nat.reduceAdd, Nat.reduceSub, Nat.reduceLT, Nat.reduceLeDiff, Nat.zero_add, gAdd_i, gAdd_g, gSub_i, gAddI_i, gMul_l, gMul_r, gDiv_i, gMod_i, gPow_i, gMulA_g, cLt_i, cLe_i, cGt_i, cGe_i, eqQ_i, neQ_i, eqQ_g, neQ_g, eqQ_ints, neQ_ints, eqQ_b, neQ_b, inQ_g, notInQ_g, gLen_g, gStr_i, gStr_s, gSum_p, gSum_l, gLen_p, gLen_l, toD_l, toDs_p, allP_map, ixT_lst, ixT_pl, ixT_pt, ixT_sg, signsD_g, atI_0, atI_1, atI_2, atI_3, atI_4, atI_5, atI_6, ofS, sg_len, ifLe, ifLt, rng_len, decide_true, decide_false, Bool.false_eq_true, Bool.not_true, Bool.not_false, Int.reduceLT, Int.reduceLE, Int.reduceEq, kit_ii, kit_ib, kit_ll, kit_bb, kit_bi, kit_ss, kit_tt, kit_tl, kit_lt, kit_ls, kit_li, kit_lb, kit_is, kit_si, kit_sb, kit_ti, kit_tb, kit_ts, toKs_pairs, iZpS_q, kZpS_q, iKy, iIts, iVls, List.nil_append, pNm_q, kPN_s, unb_l, unb_d, unb_o, unb_t, unb_p, unb_b, reb_l, reb_d, reb_o, reb_t, reb_p, reb_b, atP_q, kAtP_s, getP_n, getP_c, stepT_k, stepT_ix, stepT_it, stepT_f, putP_q, kPutP_s, setP_n, setP_c, kSP_s, setS_k, setS_ix, setS_it, setS_f, kPF3_q, pFld_q, kPF1_q, kPF2_o, kPF2_b, kPK4_q, pKey_q, kPK0_q, kPK1_q, kPK2_q, kPK3_d, kPK3_b, kPI5_q, kPI4_t, kPI4_l, pIx_q, kPI1_q, kPI2_q, kPI3_l, kPI3_t, eFl_q, kFl_q, valF_o, eDk_q, kDk1_q, kDk2_q, kDk3_q, valK_d, valK_p, sAppP_q, kAp1_q, kAp2_l, kAp2_b, kAp3_q, kAp4_l, kAp4_b, sExtP_q, kEx1_q, kEx2_l, kEx3_q, kEx4_l, sRevP_q, kRv1_q, kRv2_l, sPutP_q, kPp1_q, kPp2_q, kPp3_q, kPp4_q, kPp5_d, kPp5_b, sFldP_q, kFp1_q, kFp2_q, kFp3_o, ePop_q, kPo1_q, kPo2_d, kPo3_q, kPo4_q, kPo5_q, kPo6_d, kPo7_n, kPo7_d, kCM5_q, kCM4_q, kCM3_q, kCM2_q, kCM1_q, eCallM_q, kRM_q, kRM2_r, kRM2_n, runM_q, startM_q, kKl_q, eKeysL_q, kKL_q, keysT_d, kVl_q, eValsL_q, kVL_q, kDC2_q, eDictC_q, kDC_q, kDP3_q, kDP2_q, eDictP_q, kDP_q, iDic_q, kDc_q, kV_dt]
  rfl
end LP

--ev++
set_option Elab.async false
set_option linter.all false
set_option maxRecDepth 100000
set_option maxHeartbeats 2000000
/-! Drawn plans and debts. -/
namespace LP
open PySem PySem.Spec PyProof.Rows L2 DL
open LW (wD NameOk mixed mixed_range namesL phi_law_mixed phi_law_coins phi_law_names)
theorem cell_ok (ns : List Int) (k : Int) (hk : 0 ≤ k) : ∃ c, phi_law_cell [.lst (ns.map D.int), .int k] = some (.p (.int c)) := by
  unfold phi_law_cell F_law_cell
  by_cases h : k < (ns.length : Int)
  · obtain ⟨x, _, hx, _⟩ := atI_in (xs := ns) hk h
    have e : atI (ns.map D.int) k = some (.int x) := by rw [atI_map, hx]; rfl
    simp (disch := omega) only [h, e, ↓reduceIte, and_self, bindS, mapS, eV_q, kV_p, kV_l, kV_t, eM_q, kM_s, eB_q, kB_s, eC_q, eW_q, kW_p, aN_q, aC_q, kAC_q, kCons_q, aMv_q, kMv_s, kMv2_q, kMv3_s, eL_q, kL_q, eT_q, kT_q, kP_q, kBl_q, kT2_q, eFz_q, kFz_q, eOp_q, kOp1_q, kOp2_q, eCmp_q, kCm1_q, kCm2_q, eNeg_q, kNeg_q, eChain_q, kCh1_q, kCh2_q, kCh3_q, cT_q, kcT_q, cNot_q, kNot_q, cAnd_q, kcAnd_t, kcAnd_f, cOr_q, kcOr_t, kcOr_f, eIf_q, keIf_t, keIf_f, eAnd_q, keAnd_t, keAnd_f, eOr_q, keOr_t, keOr_f, eNot_q, keNot_q, sIf_q, kcIf_t, kcIf_f, eB1_q, kB1_q, eI2_q, kI2_q, eIsi_q, kIsi_q, kLst_q, eList_q, kList_q, kTpl_q, eTuple_q, kTuple_q, eCall_q, kCall_q, kCall2_q, eCallB_q, kCallB_q, kCl_q, allP_n, allP_c, eIx_q, kIx1_q, kIx2_q, oN_q, oS_q, koS_q, eSl_q, kSl1_q, kSl2_q, kSl3_q, cutT_p, cutT_l, sNx_q, sBk_q, sCt_q, sRetN_q, sSeq_q, kSeq_n, kSeq_r, kSeq_b, kSeq_c, sRet_q, kRet_q, sSet_q, kSet_q, sDrop_q, kDrop_q, gNm_q, gEnd_q, gAnd_q, gTp_q, kTp_q, partsT_p, partsT_t, kNx_q, sAsg_q, kAsg_q, sFor_q, kFor_q, loop_n, loop_c, kLp1_q, kLp2_n, kLp2_c, kLp2_b, kLp2_r, iL_q, kiL_q, iTp_q, kiTp_q, iSg_q, kiSg_q, iR1_q, kR1_q, iR2_q, kR2_q, iEn_q, kEn_q, iZp_q, kZp_q, kZp_t, sForV_q, kForV_q, kForV1_q, kForV2_n, kForV2_r, atL_q, kAtL_q, sApp_q, kApp_q, kApp1_q, kApp2_q, sPut_q, kPut_q, kPut1_q, kPut2_q, kPut3_q, kPut4_q, kPutEnd_q, asI_q, sAugIx_q, kAx_q, kAx0_q, kAx1_q, kAx2_q, kAx3_q, kAx4_q, kAx5_q, kAx6_q, kAx7_q, kAx8_q, sAug_q, kAug_q, kAug2_q, kAug3_q, comp_n, comp_c, kCp1_q, kCp2_t, kCp2_f, kCp3_q, kCp4_q, eComp_q, kComp_q, kLs_q, cYes_q, wipe_n, wipe_c, eM1_q, kM11_q, kM12_q, eSplit_q, kSp1_q, kSp2_q, eJoin_q, kJn1_q, kJn2_q, kJn3_q, kJn4_q, eCat_q, kCt0_q, kCt1_q, kCt2_q, kCt3_pl, kCt3_ll, kCt3_lp, kCt3_pp, itemsT_p, itemsT_t, itemsT_ll, isLT_p, isLT_l, eDn_q, eDix_q, kDx1_q, kDx2_q, kDx3_q, kDx4_q, eDget_q, kDg1_q, kDg2_q, kDg3_q, kDg4_q, kDg5_q, eDin_q, kDi1_q, kDi2_q, kDi3_q, kDi4_t, kDi4_f, sPutD_q, kPd1_q, kPd2_q, kPd3_q, kPd4_q, kPd5_q, atD_q, kAtD_q, dicT_p, dicT_o, keyT_i, keyT_s, toD_d, kV_d, sForM_q, kForM_q, loopT_n, loopT_c, kLt1_q, kLt2_n, kLt2_r, eM0_q, kM0_q, iR3_q, runF_q, kRun_r, kRun_n, cutT_s, gStarts, gFind, startE, T.toDs, T.toD, cleanT, tyD, tyOk, List.length_cons, List.length_nil, List.length_map, List.map_cons, List.map_nil, List.replicate, List.cons_append, List.nil_append, List.getElem?_cons_zero, List.getElem?_cons_succ, List.set_cons_zero, List.set_cons_succ, Nat.reduceAdd, Nat.reduceSub, Nat.reduceLT, Nat.reduceLeDiff, Nat.zero_add, gAdd_i, gAdd_g, gSub_i, gAddI_i, gMul_l, gMul_r, gDiv_i, gMod_i, gPow_i, gMulA_g, cLt_i, cLe_i, cGt_i, cGe_i, eqQ_i, neQ_i, eqQ_g, neQ_g, eqQ_ints, neQ_ints, eqQ_b, neQ_b, inQ_g, notInQ_g, gLen_g, gStr_i, gStr_s, gSum_p, gSum_l, gLen_p, gLen_l, toD_l, toDs_p, allP_map, ixT_lst, ixT_pl, ixT_pt, ixT_sg, signsD_g, atI_0, atI_1, atI_2, atI_3, atI_4, atI_5, atI_6, ofS, sg_len, ifLe, ifLt, rng_len, decide_true, decide_false, Bool.false_eq_true, Bool.not_true, Bool.not_false, Int.reduceLT, Int.reduceLE, Int.reduceEq, kit_ii, kit_ib, kit_ll, kit_bb, kit_bi, kit_ss, kit_tt, kit_tl, kit_lt, kit_ls, kit_li, kit_lb, kit_is, kit_si, kit_sb, kit_ti, kit_tb, kit_ts, toKs_pairs, iZpS_q, kZpS_q, iKy, iIts, iVls, List.nil_append, pNm_q, kPN_s, unb_l, unb_d, unb_o, unb_t, unb_p, unb_b, reb_l, reb_d, reb_o, reb_t, reb_p, reb_b, atP_q, kAtP_s, getP_n, getP_c, stepT_k, stepT_ix, stepT_it, stepT_f, putP_q, kPutP_s, setP_n, setP_c, kSP_s, setS_k, setS_ix, setS_it, setS_f, kPF3_q, pFld_q, kPF1_q, kPF2_o, kPF2_b, kPK4_q, pKey_q, kPK0_q, kPK1_q, kPK2_q, kPK3_d, kPK3_b, kPI5_q, kPI4_t, kPI4_l, pIx_q, kPI1_q, kPI2_q, kPI3_l, kPI3_t, eFl_q, kFl_q, valF_o, eDk_q, kDk1_q, kDk2_q, kDk3_q, valK_d, valK_p, sAppP_q, kAp1_q, kAp2_l, kAp2_b, kAp3_q, kAp4_l, kAp4_b, sExtP_q, kEx1_q, kEx2_l, kEx3_q, kEx4_l, sRevP_q, kRv1_q, kRv2_l, sPutP_q, kPp1_q, kPp2_q, kPp3_q, kPp4_q, kPp5_d, kPp5_b, sFldP_q, kFp1_q, kFp2_q, kFp3_o, ePop_q, kPo1_q, kPo2_d, kPo3_q, kPo4_q, kPo5_q, kPo6_d, kPo7_n, kPo7_d, kCM5_q, kCM4_q, kCM3_q, kCM2_q, kCM1_q, eCallM_q, kRM_q, kRM2_r, kRM2_n, runM_q, startM_q, kKl_q, eKeysL_q, kKL_q, keysT_d, kVl_q, eValsL_q, kVL_q, kDC2_q, eDictC_q, kDC_q, kDP3_q, kDP2_q, eDictP_q, kDP_q, iDic_q, kDc_q, kV_dt]
    exact ⟨x, rfl⟩
  · simp (disch := omega) only [h, ↓reduceIte, and_self, bindS, mapS, eV_q, kV_p, kV_l, kV_t, eM_q, kM_s, eB_q, kB_s, eC_q, eW_q, kW_p, aN_q, aC_q, kAC_q, kCons_q, aMv_q, kMv_s, kMv2_q, kMv3_s, eL_q, kL_q, eT_q, kT_q, kP_q, kBl_q, kT2_q, eFz_q, kFz_q, eOp_q, kOp1_q, kOp2_q, eCmp_q, kCm1_q, kCm2_q, eNeg_q, kNeg_q, eChain_q, kCh1_q, kCh2_q, kCh3_q, cT_q, kcT_q, cNot_q, kNot_q, cAnd_q, kcAnd_t, kcAnd_f, cOr_q, kcOr_t, kcOr_f, eIf_q, keIf_t, keIf_f, eAnd_q, keAnd_t, keAnd_f, eOr_q, keOr_t, keOr_f, eNot_q, keNot_q, sIf_q, kcIf_t, kcIf_f, eB1_q, kB1_q, eI2_q, kI2_q, eIsi_q, kIsi_q, kLst_q, eList_q, kList_q, kTpl_q, eTuple_q, kTuple_q, eCall_q, kCall_q, kCall2_q, eCallB_q, kCallB_q, kCl_q, allP_n, allP_c, eIx_q, kIx1_q, kIx2_q, oN_q, oS_q, koS_q, eSl_q, kSl1_q, kSl2_q, kSl3_q, cutT_p, cutT_l, sNx_q, sBk_q, sCt_q, sRetN_q, sSeq_q, kSeq_n, kSeq_r, kSeq_b, kSeq_c, sRet_q, kRet_q, sSet_q, kSet_q, sDrop_q, kDrop_q, gNm_q, gEnd_q, gAnd_q, gTp_q, kTp_q, partsT_p, partsT_t, kNx_q, sAsg_q, kAsg_q, sFor_q, kFor_q, loop_n, loop_c, kLp1_q, kLp2_n, kLp2_c, kLp2_b, kLp2_r, iL_q, kiL_q, iTp_q, kiTp_q, iSg_q, kiSg_q, iR1_q, kR1_q, iR2_q, kR2_q, iEn_q, kEn_q, iZp_q, kZp_q, kZp_t, sForV_q, kForV_q, kForV1_q, kForV2_n, kForV2_r, atL_q, kAtL_q, sApp_q, kApp_q, kApp1_q, kApp2_q, sPut_q, kPut_q, kPut1_q, kPut2_q, kPut3_q, kPut4_q, kPutEnd_q, asI_q, sAugIx_q, kAx_q, kAx0_q, kAx1_q, kAx2_q, kAx3_q, kAx4_q, kAx5_q, kAx6_q, kAx7_q, kAx8_q, sAug_q, kAug_q, kAug2_q, kAug3_q, comp_n, comp_c, kCp1_q, kCp2_t, kCp2_f, kCp3_q, kCp4_q, eComp_q, kComp_q, kLs_q, cYes_q, wipe_n, wipe_c, eM1_q, kM11_q, kM12_q, eSplit_q, kSp1_q, kSp2_q, eJoin_q, kJn1_q, kJn2_q, kJn3_q, kJn4_q, eCat_q, kCt0_q, kCt1_q, kCt2_q, kCt3_pl, kCt3_ll, kCt3_lp, kCt3_pp, itemsT_p, itemsT_t, itemsT_ll, isLT_p, isLT_l, eDn_q, eDix_q, kDx1_q, kDx2_q, kDx3_q, kDx4_q, eDget_q, kDg1_q, kDg2_q, kDg3_q, kDg4_q, kDg5_q, eDin_q, kDi1_q, kDi2_q, kDi3_q, kDi4_t, kDi4_f, sPutD_q, kPd1_q, kPd2_q, kPd3_q, kPd4_q, kPd5_q, atD_q, kAtD_q, dicT_p, dicT_o, keyT_i, keyT_s, toD_d, kV_d, sForM_q, kForM_q, loopT_n, loopT_c, kLt1_q, kLt2_n, kLt2_r, eM0_q, kM0_q, iR3_q, runF_q, kRun_r, kRun_n, cutT_s, gStarts, gFind, startE, T.toDs, T.toD, cleanT, tyD, tyOk, List.length_cons, List.length_nil, List.length_map, List.map_cons, List.map_nil, List.replicate, List.cons_append, List.nil_append, List.getElem?_cons_zero, List.getElem?_cons_succ, List.set_cons_zero, List.set_cons_succ, Nat.reduceAdd, Nat.reduceSub, Nat.reduceLT, Nat.reduceLeDiff, Nat.zero_add, gAdd_i, gAdd_g, gSub_i, gAddI_i, gMul_l, gMul_r, gDiv_i, gMod_i, gPow_i, gMulA_g, cLt_i, cLe_i, cGt_i, cGe_i, eqQ_i, neQ_i, eqQ_g, neQ_g, eqQ_ints, neQ_ints, eqQ_b, neQ_b, inQ_g, notInQ_g, gLen_g, gStr_i, gStr_s, gSum_p, gSum_l, gLen_p, gLen_l, toD_l, toDs_p, allP_map, ixT_lst, ixT_pl, ixT_pt, ixT_sg, signsD_g, atI_0, atI_1, atI_2, atI_3, atI_4, atI_5, atI_6, ofS, sg_len, ifLe, ifLt, rng_len, decide_true, decide_false, Bool.false_eq_true, Bool.not_true, Bool.not_false, Int.reduceLT, Int.reduceLE, Int.reduceEq, kit_ii, kit_ib, kit_ll, kit_bb, kit_bi, kit_ss, kit_tt, kit_tl, kit_lt, kit_ls, kit_li, kit_lb, kit_is, kit_si, kit_sb, kit_ti, kit_tb, kit_ts, toKs_pairs, iZpS_q, kZpS_q, iKy, iIts, iVls, List.nil_append, pNm_q, kPN_s, unb_l, unb_d, unb_o, unb_t, unb_p, unb_b, reb_l, reb_d, reb_o, reb_t, reb_p, reb_b, atP_q, kAtP_s, getP_n, getP_c, stepT_k, stepT_ix, stepT_it, stepT_f, putP_q, kPutP_s, setP_n, setP_c, kSP_s, setS_k, setS_ix, setS_it, setS_f, kPF3_q, pFld_q, kPF1_q, kPF2_o, kPF2_b, kPK4_q, pKey_q, kPK0_q, kPK1_q, kPK2_q, kPK3_d, kPK3_b, kPI5_q, kPI4_t, kPI4_l, pIx_q, kPI1_q, kPI2_q, kPI3_l, kPI3_t, eFl_q, kFl_q, valF_o, eDk_q, kDk1_q, kDk2_q, kDk3_q, valK_d, valK_p, sAppP_q, kAp1_q, kAp2_l, kAp2_b, kAp3_q, kAp4_l, kAp4_b, sExtP_q, kEx1_q, kEx2_l, kEx3_q, kEx4_l, sRevP_q, kRv1_q, kRv2_l, sPutP_q, kPp1_q, kPp2_q, kPp3_q, kPp4_q, kPp5_d, kPp5_b, sFldP_q, kFp1_q, kFp2_q, kFp3_o, ePop_q, kPo1_q, kPo2_d, kPo3_q, kPo4_q, kPo5_q, kPo6_d, kPo7_n, kPo7_d, kCM5_q, kCM4_q, kCM3_q, kCM2_q, kCM1_q, eCallM_q, kRM_q, kRM2_r, kRM2_n, runM_q, startM_q, kKl_q, eKeysL_q, kKL_q, keysT_d, kVl_q, eValsL_q, kVL_q, kDC2_q, eDictC_q, kDC_q, kDP3_q, kDP2_q, eDictP_q, kDP_q, iDic_q, kDc_q, kV_dt]
    exact ⟨0, rfl⟩
def PlOk (l : List Pl) : Prop := (l.map (·.1)).Nodup ∧ (∀ p ∈ l, (1 ≤ p.1 ∧ p.1 ≤ 60) ∧ 1 ≤ p.2 ∧ p.2 ≤ 1000000000000) ∧ l.length ≤ 12
theorem e1012 : (10 : Int) ^ (12 : Int).toNat = 1000000000000 := by decide
theorem nodup_snoc {l : List Int} {x : Int} (h : l.Nodup) (hx : ∀ y ∈ l, y < x) : (l ++ [x]).Nodup := by
  rw [List.nodup_append]
  refine ⟨h, by simp, fun a ha b hb e => ?_⟩
  rw [List.mem_singleton] at hb
  subst hb; subst e
  have := hx a ha; omega
theorem plan_loop (c k : Int) (many : T) (hk : 0 ≤ k ∧ k ≤ 1000) : ∀ (n : Nat) (j : Nat) (day : Int) (acc : List Pl) (e5 e6 : Option T), j + n ≤ 12 → 0 ≤ day ∧ day ≤ 60 → (acc.map (·.1)).Nodup → (∀ p ∈ acc, ((1 ≤ p.1 ∧ p.1 ≤ 60) ∧ p.1 ≤ day) ∧ 1 ≤ p.2 ∧ p.2 ≤ 1000000000000) → acc.length = j →
    ∃ e4 e5' e6' acc', loopD (gNm 5) B_law_plan_1 (rngD (j : Int) n) [some (.p (.int c)), some (.p (.int k)), some many, some (.lst ((acc.map plD).map T.p)), some (.p (.int day)), e5, e6] =
      some (.nx, [some (.p (.int c)), some (.p (.int k)), some many, some (.lst ((acc'.map plD).map T.p)), e4, e5', e6']) ∧ PlOk acc'
  | 0, j, day, acc, e5, e6, h1, h2, h3, h4, h5 => ⟨_, _, _, acc, rfl, h3, fun p hp => ⟨(h4 p hp).1.1, (h4 p hp).2⟩, by omega⟩
  | n + 1, j, day, acc, e5, e6, h1, h2, h3, h4, h5 => by
    have m1 := LW.mixed_ok c (40 + 13 * k + (j : Int)) (by omega)
    have m1 : phi_law_mixed [.int c, .int (40 + 13 * k + (j : Int))] = some (.p (.int (mixed c (40 + 13 * k + (j : Int))))) := m1
    have m2 : phi_law_mixed [.int c, .int k] = some (.p (.int (mixed c k))) := LW.mixed_ok c k (by omega)
    have r1 := mixed_range c (40 + 13 * k + (j : Int))
    generalize mixed c (40 + 13 * k + (j : Int)) = m at *
    obtain ⟨y, hy, y1, y2⟩ : ∃ y, phi_law_coins [.int (c + (j : Int)), .int (m / 60 % 1009), .int 1000000000000] = some (.p (.int y)) ∧ 1 ≤ y ∧ y ≤ 1000000000000 := LW.coins_ok (c + (j : Int)) (m / 60 % 1009) 1000000000000 (by omega) (by omega)
    obtain ⟨q, hq, hat⟩ : ∃ q : Int, (q = 5 ∨ q = 12 ∨ q = 1) ∧ ixT (.p (.lst [.int 5, .int 12, .int 1])) (mixed c k % 3) = some (.p (.int q)) := by
      have : mixed c k % 3 = 0 ∨ mixed c k % 3 = 1 ∨ mixed c k % 3 = 2 := by omega
      rcases this with e | e | e <;> rw [e]
      · exact ⟨5, .inl rfl, rfl⟩
      · exact ⟨12, .inr (.inl rfl), rfl⟩
      · exact ⟨1, .inr (.inr rfl), rfl⟩
    have hat2 : ixT (.lst [.p (.int 5), .p (.int 12), .p (.int 1)]) (mixed c k % 3) = some (.p (.int q)) := by
      have : mixed c k % 3 = 0 ∨ mixed c k % 3 = 1 ∨ mixed c k % 3 = 2 := by omega
      rcases this with e | e | e <;> rw [e] at hat ⊢ <;> exact hat
    have hq0 : q ≠ 0 := by omega
    have hr : 0 ≤ m % q ∧ m % q < 12 := by rcases hq with rfl | rfl | rfl <;> omega
    have hla : acc.length < 16000000 := by omega
    rw [rngD_cons]
    by_cases z : 60 < day + 1 + m % q
    · refine ⟨some (.p (.int (day + 1 + m % q))), some (.p (.int (j : Int))), some (.p (.int m)), acc, loop_bk ?_, h3, fun p hp => ⟨(h4 p hp).1.1, (h4 p hp).2⟩, by omega⟩
      simp (disch := omega) only [B_law_plan_1, m1, m2, hat2, hq0, z, ↓reduceIte, and_self, bindS, mapS, eV_q, kV_p, kV_l, kV_t, eM_q, kM_s, eB_q, kB_s, eC_q, eW_q, kW_p, aN_q, aC_q, kAC_q, kCons_q, aMv_q, kMv_s, kMv2_q, kMv3_s, eL_q, kL_q, eT_q, kT_q, kP_q, kBl_q, kT2_q, eFz_q, kFz_q, eOp_q, kOp1_q, kOp2_q, eCmp_q, kCm1_q, kCm2_q, eNeg_q, kNeg_q, eChain_q, kCh1_q, kCh2_q, kCh3_q, cT_q, kcT_q, cNot_q, kNot_q, cAnd_q, kcAnd_t, kcAnd_f, cOr_q, kcOr_t, kcOr_f, eIf_q, keIf_t, keIf_f, eAnd_q, keAnd_t, keAnd_f, eOr_q, keOr_t, keOr_f, eNot_q, keNot_q, sIf_q, kcIf_t, kcIf_f, eB1_q, kB1_q, eI2_q, kI2_q, eIsi_q, kIsi_q, kLst_q, eList_q, kList_q, kTpl_q, eTuple_q, kTuple_q, eCall_q, kCall_q, kCall2_q, eCallB_q, kCallB_q, kCl_q, allP_n, allP_c, eIx_q, kIx1_q, kIx2_q, oN_q, oS_q, koS_q, eSl_q, kSl1_q, kSl2_q, kSl3_q, cutT_p, cutT_l, sNx_q, sBk_q, sCt_q, sRetN_q, sSeq_q, kSeq_n, kSeq_r, kSeq_b, kSeq_c, sRet_q, kRet_q, sSet_q, kSet_q, sDrop_q, kDrop_q, gNm_q, gEnd_q, gAnd_q, gTp_q, kTp_q, partsT_p, partsT_t, kNx_q, sAsg_q, kAsg_q, sFor_q, kFor_q, loop_n, loop_c, kLp1_q, kLp2_n, kLp2_c, kLp2_b, kLp2_r, iL_q, kiL_q, iTp_q, kiTp_q, iSg_q, kiSg_q, iR1_q, kR1_q, iR2_q, kR2_q, iEn_q, kEn_q, iZp_q, kZp_q, kZp_t, sForV_q, kForV_q, kForV1_q, kForV2_n, kForV2_r, atL_q, kAtL_q, sApp_q, kApp_q, kApp1_q, kApp2_q, sPut_q, kPut_q, kPut1_q, kPut2_q, kPut3_q, kPut4_q, kPutEnd_q, asI_q, sAugIx_q, kAx_q, kAx0_q, kAx1_q, kAx2_q, kAx3_q, kAx4_q, kAx5_q, kAx6_q, kAx7_q, kAx8_q, sAug_q, kAug_q, kAug2_q, kAug3_q, comp_n, comp_c, kCp1_q, kCp2_t, kCp2_f, kCp3_q, kCp4_q, eComp_q, kComp_q, kLs_q, cYes_q, wipe_n, wipe_c, eM1_q, kM11_q, kM12_q, eSplit_q, kSp1_q, kSp2_q, eJoin_q, kJn1_q, kJn2_q, kJn3_q, kJn4_q, eCat_q, kCt0_q, kCt1_q, kCt2_q, kCt3_pl, kCt3_ll, kCt3_lp, kCt3_pp, itemsT_p, itemsT_t, itemsT_ll, isLT_p, isLT_l, eDn_q, eDix_q, kDx1_q, kDx2_q, kDx3_q, kDx4_q, eDget_q, kDg1_q, kDg2_q, kDg3_q, kDg4_q, kDg5_q, eDin_q, kDi1_q, kDi2_q, kDi3_q, kDi4_t, kDi4_f, sPutD_q, kPd1_q, kPd2_q, kPd3_q, kPd4_q, kPd5_q, atD_q, kAtD_q, dicT_p, dicT_o, keyT_i, keyT_s, toD_d, kV_d, sForM_q, kForM_q, loopT_n, loopT_c, kLt1_q, kLt2_n, kLt2_r, eM0_q, kM0_q, iR3_q, runF_q, kRun_r, kRun_n, cutT_s, gStarts, gFind, startE, T.toDs, T.toD, cleanT, tyD, tyOk, List.length_cons, List.length_nil, List.length_map, List.map_cons, List.map_nil, List.replicate, List.cons_append, List.nil_append, List.getElem?_cons_zero, List.getElem?_cons_succ, List.set_cons_zero, List.set_cons_succ, Nat.reduceAdd, Nat.reduceSub, Nat.reduceLT, Nat.reduceLeDiff, Nat.zero_add, gAdd_i, gAdd_g, gSub_i, gAddI_i, gMul_l, gMul_r, gDiv_i, gMod_i, gPow_i, gMulA_g, cLt_i, cLe_i, cGt_i, cGe_i, eqQ_i, neQ_i, eqQ_g, neQ_g, eqQ_ints, neQ_ints, eqQ_b, neQ_b, inQ_g, notInQ_g, gLen_g, gStr_i, gStr_s, gSum_p, gSum_l, gLen_p, gLen_l, toD_l, toDs_p, allP_map, ixT_pl, ixT_pt, ixT_sg, signsD_g, atI_0, atI_1, atI_2, atI_3, atI_4, atI_5, atI_6, ofS, sg_len, ifLe, ifLt, rng_len, decide_true, decide_false, Bool.false_eq_true, Bool.not_true, Bool.not_false, Int.reduceLT, Int.reduceLE, Int.reduceEq, kit_ii, kit_ib, kit_ll, kit_bb, kit_bi, kit_ss, kit_tt, kit_tl, kit_lt, kit_ls, kit_li, kit_lb, kit_is, kit_si, kit_sb, kit_ti, kit_tb, kit_ts, toKs_pairs, iZpS_q, kZpS_q, iKy, iIts, iVls, List.nil_append, pNm_q, kPN_s, unb_l, unb_d, unb_o, unb_t, unb_p, unb_b, reb_l, reb_d, reb_o, reb_t, reb_p, reb_b, atP_q, kAtP_s, getP_n, getP_c, stepT_k, stepT_ix, stepT_it, stepT_f, putP_q, kPutP_s, setP_n, setP_c, kSP_s, setS_k, setS_ix, setS_it, setS_f, kPF3_q, pFld_q, kPF1_q, kPF2_o, kPF2_b, kPK4_q, pKey_q, kPK0_q, kPK1_q, kPK2_q, kPK3_d, kPK3_b, kPI5_q, kPI4_t, kPI4_l, pIx_q, kPI1_q, kPI2_q, kPI3_l, kPI3_t, eFl_q, kFl_q, valF_o, eDk_q, kDk1_q, kDk2_q, kDk3_q, valK_d, valK_p, sAppP_q, kAp1_q, kAp2_l, kAp2_b, kAp3_q, kAp4_l, kAp4_b, sExtP_q, kEx1_q, kEx2_l, kEx3_q, kEx4_l, sRevP_q, kRv1_q, kRv2_l, sPutP_q, kPp1_q, kPp2_q, kPp3_q, kPp4_q, kPp5_d, kPp5_b, sFldP_q, kFp1_q, kFp2_q, kFp3_o, ePop_q, kPo1_q, kPo2_d, kPo3_q, kPo4_q, kPo5_q, kPo6_d, kPo7_n, kPo7_d, kCM5_q, kCM4_q, kCM3_q, kCM2_q, kCM1_q, eCallM_q, kRM_q, kRM2_r, kRM2_n, runM_q, startM_q, kKl_q, eKeysL_q, kKL_q, keysT_d, kVl_q, eValsL_q, kVL_q, kDC2_q, eDictC_q, kDC_q, kDP3_q, kDP2_q, eDictP_q, kDP_q, iDic_q, kDc_q, kV_dt]
    · obtain ⟨e4, e5', e6', acc', ih, ho⟩ := plan_loop c k many hk n (j + 1) (day + 1 + m % q) (acc ++ [(day + 1 + m % q, y)]) (some (.p (.int (j : Int)))) (some (.p (.int m))) (by omega) (by omega) (by
        rw [List.map_append]
        refine nodup_snoc h3 fun a ha => ?_
        obtain ⟨p, hp, rfl⟩ := List.mem_map.mp ha
        have := (h4 p hp).1.2
        show p.1 < day + 1 + m % q
        omega) (fun p hp => by
        rcases List.mem_append.mp hp with hp | hp
        · obtain ⟨⟨a1, a2⟩, a3⟩ := h4 p hp
          exact ⟨⟨a1, by omega⟩, a3⟩
        · rw [List.mem_singleton.mp hp]
          exact ⟨⟨⟨by show 1 ≤ day + 1 + m % q; omega, by show day + 1 + m % q ≤ 60; omega⟩, Int.le_refl _⟩, y1, y2⟩) (by simp [h5])
      refine ⟨e4, e5', e6', acc', loop_nx ?_ (by rw [show ((j : Int) + 1) = ((j + 1 : Nat) : Int) by omega]; exact ih), ho⟩
      simp (disch := omega) only [B_law_plan_1, m1, m2, hat2, hq0, z, e1012, hy, hla, gT_pair, ↓reduceIte, and_self, bindS, mapS, eV_q, kV_p, kV_l, kV_t, eM_q, kM_s, eB_q, kB_s, eC_q, eW_q, kW_p, aN_q, aC_q, kAC_q, kCons_q, aMv_q, kMv_s, kMv2_q, kMv3_s, eL_q, kL_q, eT_q, kT_q, kP_q, kBl_q, kT2_q, eFz_q, kFz_q, eOp_q, kOp1_q, kOp2_q, eCmp_q, kCm1_q, kCm2_q, eNeg_q, kNeg_q, eChain_q, kCh1_q, kCh2_q, kCh3_q, cT_q, kcT_q, cNot_q, kNot_q, cAnd_q, kcAnd_t, kcAnd_f, cOr_q, kcOr_t, kcOr_f, eIf_q, keIf_t, keIf_f, eAnd_q, keAnd_t, keAnd_f, eOr_q, keOr_t, keOr_f, eNot_q, keNot_q, sIf_q, kcIf_t, kcIf_f, eB1_q, kB1_q, eI2_q, kI2_q, eIsi_q, kIsi_q, kLst_q, eList_q, kList_q, kTpl_q, eTuple_q, kTuple_q, eCall_q, kCall_q, kCall2_q, eCallB_q, kCallB_q, kCl_q, allP_n, allP_c, eIx_q, kIx1_q, kIx2_q, oN_q, oS_q, koS_q, eSl_q, kSl1_q, kSl2_q, kSl3_q, cutT_p, cutT_l, sNx_q, sBk_q, sCt_q, sRetN_q, sSeq_q, kSeq_n, kSeq_r, kSeq_b, kSeq_c, sRet_q, kRet_q, sSet_q, kSet_q, sDrop_q, kDrop_q, gNm_q, gEnd_q, gAnd_q, gTp_q, kTp_q, partsT_p, partsT_t, kNx_q, sAsg_q, kAsg_q, sFor_q, kFor_q, loop_n, loop_c, kLp1_q, kLp2_n, kLp2_c, kLp2_b, kLp2_r, iL_q, kiL_q, iTp_q, kiTp_q, iSg_q, kiSg_q, iR1_q, kR1_q, iR2_q, kR2_q, iEn_q, kEn_q, iZp_q, kZp_q, kZp_t, sForV_q, kForV_q, kForV1_q, kForV2_n, kForV2_r, atL_q, kAtL_q, sApp_q, kApp_q, kApp1_q, kApp2_q, sPut_q, kPut_q, kPut1_q, kPut2_q, kPut3_q, kPut4_q, kPutEnd_q, asI_q, sAugIx_q, kAx_q, kAx0_q, kAx1_q, kAx2_q, kAx3_q, kAx4_q, kAx5_q, kAx6_q, kAx7_q, kAx8_q, sAug_q, kAug_q, kAug2_q, kAug3_q, comp_n, comp_c, kCp1_q, kCp2_t, kCp2_f, kCp3_q, kCp4_q, eComp_q, kComp_q, kLs_q, cYes_q, wipe_n, wipe_c, eM1_q, kM11_q, kM12_q, eSplit_q, kSp1_q, kSp2_q, eJoin_q, kJn1_q, kJn2_q, kJn3_q, kJn4_q, eCat_q, kCt0_q, kCt1_q, kCt2_q, kCt3_pl, kCt3_ll, kCt3_lp, kCt3_pp, itemsT_p, itemsT_t, itemsT_ll, isLT_p, isLT_l, eDn_q, eDix_q, kDx1_q, kDx2_q, kDx3_q, kDx4_q, eDget_q, kDg1_q, kDg2_q, kDg3_q, kDg4_q, kDg5_q, eDin_q, kDi1_q, kDi2_q, kDi3_q, kDi4_t, kDi4_f, sPutD_q, kPd1_q, kPd2_q, kPd3_q, kPd4_q, kPd5_q, atD_q, kAtD_q, dicT_p, dicT_o, keyT_i, keyT_s, toD_d, kV_d, sForM_q, kForM_q, loopT_n, loopT_c, kLt1_q, kLt2_n, kLt2_r, eM0_q, kM0_q, iR3_q, runF_q, kRun_r, kRun_n, cutT_s, gStarts, gFind, startE, T.toDs, T.toD, cleanT, tyD, tyOk, List.length_cons, List.length_nil, List.length_map, List.map_cons, List.map_nil, List.replicate, List.cons_append, List.nil_append, List.getElem?_cons_zero, List.getElem?_cons_succ, List.set_cons_zero, List.set_cons_succ, Nat.reduceAdd, Nat.reduceSub, Nat.reduceLT, Nat.reduceLeDiff, Nat.zero_add, gAdd_i, gAdd_g, gSub_i, gAddI_i, gMul_l, gMul_r, gDiv_i, gMod_i, gPow_i, gMulA_g, cLt_i, cLe_i, cGt_i, cGe_i, eqQ_i, neQ_i, eqQ_g, neQ_g, eqQ_ints, neQ_ints, eqQ_b, neQ_b, inQ_g, notInQ_g, gLen_g, gStr_i, gStr_s, gSum_p, gSum_l, gLen_p, gLen_l, toD_l, toDs_p, allP_map, ixT_pl, ixT_pt, ixT_sg, signsD_g, atI_0, atI_1, atI_2, atI_3, atI_4, atI_5, atI_6, ofS, sg_len, ifLe, ifLt, rng_len, decide_true, decide_false, Bool.false_eq_true, Bool.not_true, Bool.not_false, Int.reduceLT, Int.reduceLE, Int.reduceEq, kit_ii, kit_ib, kit_ll, kit_bb, kit_bi, kit_ss, kit_tt, kit_tl, kit_lt, kit_ls, kit_li, kit_lb, kit_is, kit_si, kit_sb, kit_ti, kit_tb, kit_ts, toKs_pairs, iZpS_q, kZpS_q, iKy, iIts, iVls, List.nil_append, pNm_q, kPN_s, unb_l, unb_d, unb_o, unb_t, unb_p, unb_b, reb_l, reb_d, reb_o, reb_t, reb_p, reb_b, atP_q, kAtP_s, getP_n, getP_c, stepT_k, stepT_ix, stepT_it, stepT_f, putP_q, kPutP_s, setP_n, setP_c, kSP_s, setS_k, setS_ix, setS_it, setS_f, kPF3_q, pFld_q, kPF1_q, kPF2_o, kPF2_b, kPK4_q, pKey_q, kPK0_q, kPK1_q, kPK2_q, kPK3_d, kPK3_b, kPI5_q, kPI4_t, kPI4_l, pIx_q, kPI1_q, kPI2_q, kPI3_l, kPI3_t, eFl_q, kFl_q, valF_o, eDk_q, kDk1_q, kDk2_q, kDk3_q, valK_d, valK_p, sAppP_q, kAp1_q, kAp2_l, kAp2_b, kAp3_q, kAp4_l, kAp4_b, sExtP_q, kEx1_q, kEx2_l, kEx3_q, kEx4_l, sRevP_q, kRv1_q, kRv2_l, sPutP_q, kPp1_q, kPp2_q, kPp3_q, kPp4_q, kPp5_d, kPp5_b, sFldP_q, kFp1_q, kFp2_q, kFp3_o, ePop_q, kPo1_q, kPo2_d, kPo3_q, kPo4_q, kPo5_q, kPo6_d, kPo7_n, kPo7_d, kCM5_q, kCM4_q, kCM3_q, kCM2_q, kCM1_q, eCallM_q, kRM_q, kRM2_r, kRM2_n, runM_q, startM_q, kKl_q, eKeysL_q, kKL_q, keysT_d, kVl_q, eValsL_q, kVL_q, kDC2_q, eDictC_q, kDC_q, kDP3_q, kDP2_q, eDictP_q, kDP_q, iDic_q, kDc_q, kV_dt]
      simp [plD]
theorem plan_ok (c k : Int) (hk : 0 ≤ k ∧ k ≤ 1000) : ∃ l, phi_law_plan [.int c, .int k] = some (.lst ((l.map plD).map T.p)) ∧ PlOk l := by
  have m1 : phi_law_mixed [.int c, .int (k + 20)] = some (.p (.int (mixed c (k + 20)))) := LW.mixed_ok c (k + 20) (by omega)
  have r1 := mixed_range c (k + 20)
  generalize mixed c (k + 20) = m at *
  have go : ∀ M : Int, 1 ≤ M ∧ M ≤ 12 → ∃ e4 e5 e6 acc', loopD (gNm 5) B_law_plan_1 (rngD 0 M.toNat) [some (.p (.int c)), some (.p (.int k)), some (.p (.int M)), some (.lst []), some (.p (.int 0)), none, none] =
      some (.nx, [some (.p (.int c)), some (.p (.int k)), some (.p (.int M)), some (.lst ((acc'.map plD).map T.p)), e4, e5, e6]) ∧ PlOk acc' := fun M hM => by
    have := plan_loop c k (.p (.int M)) hk M.toNat 0 0 [] none none (by omega) (by omega) (by simp) (by simp) rfl
    simpa using this
  by_cases z : k % 5 = 0
  · by_cases z2 : m / 5 % 3 = 1
    · obtain ⟨e4, e5, e6, l, h1, h2⟩ := go 12 (by omega)
      refine ⟨l, ?_, h2⟩
      unfold phi_law_plan F_law_plan
      simp (disch := omega) only [m1, z, z2, h1, ↓reduceIte, and_self, bindS, mapS, eV_q, kV_p, kV_l, kV_t, eM_q, kM_s, eB_q, kB_s, eC_q, eW_q, kW_p, aN_q, aC_q, kAC_q, kCons_q, aMv_q, kMv_s, kMv2_q, kMv3_s, eL_q, kL_q, eT_q, kT_q, kP_q, kBl_q, kT2_q, eFz_q, kFz_q, eOp_q, kOp1_q, kOp2_q, eCmp_q, kCm1_q, kCm2_q, eNeg_q, kNeg_q, eChain_q, kCh1_q, kCh2_q, kCh3_q, cT_q, kcT_q, cNot_q, kNot_q, cAnd_q, kcAnd_t, kcAnd_f, cOr_q, kcOr_t, kcOr_f, eIf_q, keIf_t, keIf_f, eAnd_q, keAnd_t, keAnd_f, eOr_q, keOr_t, keOr_f, eNot_q, keNot_q, sIf_q, kcIf_t, kcIf_f, eB1_q, kB1_q, eI2_q, kI2_q, eIsi_q, kIsi_q, kLst_q, eList_q, kList_q, kTpl_q, eTuple_q, kTuple_q, eCall_q, kCall_q, kCall2_q, eCallB_q, kCallB_q, kCl_q, allP_n, allP_c, eIx_q, kIx1_q, kIx2_q, oN_q, oS_q, koS_q, eSl_q, kSl1_q, kSl2_q, kSl3_q, cutT_p, cutT_l, sNx_q, sBk_q, sCt_q, sRetN_q, sSeq_q, kSeq_n, kSeq_r, kSeq_b, kSeq_c, sRet_q, kRet_q, sSet_q, kSet_q, sDrop_q, kDrop_q, gNm_q, gEnd_q, gAnd_q, gTp_q, kTp_q, partsT_p, partsT_t, kNx_q, sAsg_q, kAsg_q, sFor_q, kFor_q, loop_n, loop_c, kLp1_q, kLp2_n, kLp2_c, kLp2_b, kLp2_r, iL_q, kiL_q, iTp_q, kiTp_q, iSg_q, kiSg_q, iR1_q, kR1_q, iR2_q, kR2_q, iEn_q, kEn_q, iZp_q, kZp_q, kZp_t, sForV_q, kForV_q, kForV1_q, kForV2_n, kForV2_r, atL_q, kAtL_q, sApp_q, kApp_q, kApp1_q, kApp2_q, sPut_q, kPut_q, kPut1_q, kPut2_q, kPut3_q, kPut4_q, kPutEnd_q, asI_q, sAugIx_q, kAx_q, kAx0_q, kAx1_q, kAx2_q, kAx3_q, kAx4_q, kAx5_q, kAx6_q, kAx7_q, kAx8_q, sAug_q, kAug_q, kAug2_q, kAug3_q, comp_n, comp_c, kCp1_q, kCp2_t, kCp2_f, kCp3_q, kCp4_q, eComp_q, kComp_q, kLs_q, cYes_q, wipe_n, wipe_c, eM1_q, kM11_q, kM12_q, eSplit_q, kSp1_q, kSp2_q, eJoin_q, kJn1_q, kJn2_q, kJn3_q, kJn4_q, eCat_q, kCt0_q, kCt1_q, kCt2_q, kCt3_pl, kCt3_ll, kCt3_lp, kCt3_pp, itemsT_p, itemsT_t, itemsT_ll, isLT_p, isLT_l, eDn_q, eDix_q, kDx1_q, kDx2_q, kDx3_q, kDx4_q, eDget_q, kDg1_q, kDg2_q, kDg3_q, kDg4_q, kDg5_q, eDin_q, kDi1_q, kDi2_q, kDi3_q, kDi4_t, kDi4_f, sPutD_q, kPd1_q, kPd2_q, kPd3_q, kPd4_q, kPd5_q, atD_q, kAtD_q, dicT_p, dicT_o, keyT_i, keyT_s, toD_d, kV_d, sForM_q, kForM_q, loopT_n, loopT_c, kLt1_q, kLt2_n, kLt2_r, eM0_q, kM0_q, iR3_q, runF_q, kRun_r, kRun_n, cutT_s, gStarts, gFind, startE, T.toDs, T.toD, cleanT, tyD, tyOk, List.length_cons, List.length_nil, List.length_map, List.map_cons, List.map_nil, List.replicate, List.cons_append, List.nil_append, List.getElem?_cons_zero, List.getElem?_cons_succ, List.set_cons_zero, List.set_cons_succ, Nat.reduceAdd, Nat.reduceSub, Nat.reduceLT, Nat.reduceLeDiff, Nat.zero_add, gAdd_i, gAdd_g, gSub_i, gAddI_i, gMul_l, gMul_r, gDiv_i, gMod_i, gPow_i, gMulA_g, cLt_i, cLe_i, cGt_i, cGe_i, eqQ_i, neQ_i, eqQ_g, neQ_g, eqQ_ints, neQ_ints, eqQ_b, neQ_b, inQ_g, notInQ_g, gLen_g, gStr_i, gStr_s, gSum_p, gSum_l, gLen_p, gLen_l, toD_l, toDs_p, allP_map, ixT_lst, ixT_pl, ixT_pt, ixT_sg, signsD_g, atI_0, atI_1, atI_2, atI_3, atI_4, atI_5, atI_6, ofS, sg_len, ifLe, ifLt, rng_len, decide_true, decide_false, Bool.false_eq_true, Bool.not_true, Bool.not_false, Int.reduceLT, Int.reduceLE, Int.reduceEq, kit_ii, kit_ib, kit_ll, kit_bb, kit_bi, kit_ss, kit_tt, kit_tl, kit_lt, kit_ls, kit_li, kit_lb, kit_is, kit_si, kit_sb, kit_ti, kit_tb, kit_ts, toKs_pairs, iZpS_q, kZpS_q, iKy, iIts, iVls, List.nil_append, pNm_q, kPN_s, unb_l, unb_d, unb_o, unb_t, unb_p, unb_b, reb_l, reb_d, reb_o, reb_t, reb_p, reb_b, atP_q, kAtP_s, getP_n, getP_c, stepT_k, stepT_ix, stepT_it, stepT_f, putP_q, kPutP_s, setP_n, setP_c, kSP_s, setS_k, setS_ix, setS_it, setS_f, kPF3_q, pFld_q, kPF1_q, kPF2_o, kPF2_b, kPK4_q, pKey_q, kPK0_q, kPK1_q, kPK2_q, kPK3_d, kPK3_b, kPI5_q, kPI4_t, kPI4_l, pIx_q, kPI1_q, kPI2_q, kPI3_l, kPI3_t, eFl_q, kFl_q, valF_o, eDk_q, kDk1_q, kDk2_q, kDk3_q, valK_d, valK_p, sAppP_q, kAp1_q, kAp2_l, kAp2_b, kAp3_q, kAp4_l, kAp4_b, sExtP_q, kEx1_q, kEx2_l, kEx3_q, kEx4_l, sRevP_q, kRv1_q, kRv2_l, sPutP_q, kPp1_q, kPp2_q, kPp3_q, kPp4_q, kPp5_d, kPp5_b, sFldP_q, kFp1_q, kFp2_q, kFp3_o, ePop_q, kPo1_q, kPo2_d, kPo3_q, kPo4_q, kPo5_q, kPo6_d, kPo7_n, kPo7_d, kCM5_q, kCM4_q, kCM3_q, kCM2_q, kCM1_q, eCallM_q, kRM_q, kRM2_r, kRM2_n, runM_q, startM_q, kKl_q, eKeysL_q, kKL_q, keysT_d, kVl_q, eValsL_q, kVL_q, kDC2_q, eDictC_q, kDC_q, kDP3_q, kDP2_q, eDictP_q, kDP_q, iDic_q, kDc_q, kV_dt]
    · obtain ⟨e4, e5, e6, l, h1, h2⟩ := go (1 + m % 5) (by omega)
      refine ⟨l, ?_, h2⟩
      unfold phi_law_plan F_law_plan
      simp (disch := omega) only [m1, z, z2, h1, ↓reduceIte, and_self, bindS, mapS, eV_q, kV_p, kV_l, kV_t, eM_q, kM_s, eB_q, kB_s, eC_q, eW_q, kW_p, aN_q, aC_q, kAC_q, kCons_q, aMv_q, kMv_s, kMv2_q, kMv3_s, eL_q, kL_q, eT_q, kT_q, kP_q, kBl_q, kT2_q, eFz_q, kFz_q, eOp_q, kOp1_q, kOp2_q, eCmp_q, kCm1_q, kCm2_q, eNeg_q, kNeg_q, eChain_q, kCh1_q, kCh2_q, kCh3_q, cT_q, kcT_q, cNot_q, kNot_q, cAnd_q, kcAnd_t, kcAnd_f, cOr_q, kcOr_t, kcOr_f, eIf_q, keIf_t, keIf_f, eAnd_q, keAnd_t, keAnd_f, eOr_q, keOr_t, keOr_f, eNot_q, keNot_q, sIf_q, kcIf_t, kcIf_f, eB1_q, kB1_q, eI2_q, kI2_q, eIsi_q, kIsi_q, kLst_q, eList_q, kList_q, kTpl_q, eTuple_q, kTuple_q, eCall_q, kCall_q, kCall2_q, eCallB_q, kCallB_q, kCl_q, allP_n, allP_c, eIx_q, kIx1_q, kIx2_q, oN_q, oS_q, koS_q, eSl_q, kSl1_q, kSl2_q, kSl3_q, cutT_p, cutT_l, sNx_q, sBk_q, sCt_q, sRetN_q, sSeq_q, kSeq_n, kSeq_r, kSeq_b, kSeq_c, sRet_q, kRet_q, sSet_q, kSet_q, sDrop_q, kDrop_q, gNm_q, gEnd_q, gAnd_q, gTp_q, kTp_q, partsT_p, partsT_t, kNx_q, sAsg_q, kAsg_q, sFor_q, kFor_q, loop_n, loop_c, kLp1_q, kLp2_n, kLp2_c, kLp2_b, kLp2_r, iL_q, kiL_q, iTp_q, kiTp_q, iSg_q, kiSg_q, iR1_q, kR1_q, iR2_q, kR2_q, iEn_q, kEn_q, iZp_q, kZp_q, kZp_t, sForV_q, kForV_q, kForV1_q, kForV2_n, kForV2_r, atL_q, kAtL_q, sApp_q, kApp_q, kApp1_q, kApp2_q, sPut_q, kPut_q, kPut1_q, kPut2_q, kPut3_q, kPut4_q, kPutEnd_q, asI_q, sAugIx_q, kAx_q, kAx0_q, kAx1_q, kAx2_q, kAx3_q, kAx4_q, kAx5_q, kAx6_q, kAx7_q, kAx8_q, sAug_q, kAug_q, kAug2_q, kAug3_q, comp_n, comp_c, kCp1_q, kCp2_t, kCp2_f, kCp3_q, kCp4_q, eComp_q, kComp_q, kLs_q, cYes_q, wipe_n, wipe_c, eM1_q, kM11_q, kM12_q, eSplit_q, kSp1_q, kSp2_q, eJoin_q, kJn1_q, kJn2_q, kJn3_q, kJn4_q, eCat_q, kCt0_q, kCt1_q, kCt2_q, kCt3_pl, kCt3_ll, kCt3_lp, kCt3_pp, itemsT_p, itemsT_t, itemsT_ll, isLT_p, isLT_l, eDn_q, eDix_q, kDx1_q, kDx2_q, kDx3_q, kDx4_q, eDget_q, kDg1_q, kDg2_q, kDg3_q, kDg4_q, kDg5_q, eDin_q, kDi1_q, kDi2_q, kDi3_q, kDi4_t, kDi4_f, sPutD_q, kPd1_q, kPd2_q, kPd3_q, kPd4_q, kPd5_q, atD_q, kAtD_q, dicT_p, dicT_o, keyT_i, keyT_s, toD_d, kV_d, sForM_q, kForM_q, loopT_n, loopT_c, kLt1_q, kLt2_n, kLt2_r, eM0_q, kM0_q, iR3_q, runF_q, kRun_r, kRun_n, cutT_s, gStarts, gFind, startE, T.toDs, T.toD, cleanT, tyD, tyOk, List.length_cons, List.length_nil, List.length_map, List.map_cons, List.map_nil, List.replicate, List.cons_append, List.nil_append, List.getElem?_cons_zero, List.getElem?_cons_succ, List.set_cons_zero, List.set_cons_succ, Nat.reduceAdd, Nat.reduceSub, Nat.reduceLT, Nat.reduceLeDiff, Nat.zero_add, gAdd_i, gAdd_g, gSub_i, gAddI_i, gMul_l, gMul_r, gDiv_i, gMod_i, gPow_i, gMulA_g, cLt_i, cLe_i, cGt_i, cGe_i, eqQ_i, neQ_i, eqQ_g, neQ_g, eqQ_ints, neQ_ints, eqQ_b, neQ_b, inQ_g, notInQ_g, gLen_g, gStr_i, gStr_s, gSum_p, gSum_l, gLen_p, gLen_l, toD_l, toDs_p, allP_map, ixT_lst, ixT_pl, ixT_pt, ixT_sg, signsD_g, atI_0, atI_1, atI_2, atI_3, atI_4, atI_5, atI_6, ofS, sg_len, ifLe, ifLt, rng_len, decide_true, decide_false, Bool.false_eq_true, Bool.not_true, Bool.not_false, Int.reduceLT, Int.reduceLE, Int.reduceEq, kit_ii, kit_ib, kit_ll, kit_bb, kit_bi, kit_ss, kit_tt, kit_tl, kit_lt, kit_ls, kit_li, kit_lb, kit_is, kit_si, kit_sb, kit_ti, kit_tb, kit_ts, toKs_pairs, iZpS_q, kZpS_q, iKy, iIts, iVls, List.nil_append, pNm_q, kPN_s, unb_l, unb_d, unb_o, unb_t, unb_p, unb_b, reb_l, reb_d, reb_o, reb_t, reb_p, reb_b, atP_q, kAtP_s, getP_n, getP_c, stepT_k, stepT_ix, stepT_it, stepT_f, putP_q, kPutP_s, setP_n, setP_c, kSP_s, setS_k, setS_ix, setS_it, setS_f, kPF3_q, pFld_q, kPF1_q, kPF2_o, kPF2_b, kPK4_q, pKey_q, kPK0_q, kPK1_q, kPK2_q, kPK3_d, kPK3_b, kPI5_q, kPI4_t, kPI4_l, pIx_q, kPI1_q, kPI2_q, kPI3_l, kPI3_t, eFl_q, kFl_q, valF_o, eDk_q, kDk1_q, kDk2_q, kDk3_q, valK_d, valK_p, sAppP_q, kAp1_q, kAp2_l, kAp2_b, kAp3_q, kAp4_l, kAp4_b, sExtP_q, kEx1_q, kEx2_l, kEx3_q, kEx4_l, sRevP_q, kRv1_q, kRv2_l, sPutP_q, kPp1_q, kPp2_q, kPp3_q, kPp4_q, kPp5_d, kPp5_b, sFldP_q, kFp1_q, kFp2_q, kFp3_o, ePop_q, kPo1_q, kPo2_d, kPo3_q, kPo4_q, kPo5_q, kPo6_d, kPo7_n, kPo7_d, kCM5_q, kCM4_q, kCM3_q, kCM2_q, kCM1_q, eCallM_q, kRM_q, kRM2_r, kRM2_n, runM_q, startM_q, kKl_q, eKeysL_q, kKL_q, keysT_d, kVl_q, eValsL_q, kVL_q, kDC2_q, eDictC_q, kDC_q, kDP3_q, kDP2_q, eDictP_q, kDP_q, iDic_q, kDc_q, kV_dt]
  · obtain ⟨e4, e5, e6, l, h1, h2⟩ := go (1 + m % 5) (by omega)
    refine ⟨l, ?_, h2⟩
    unfold phi_law_plan F_law_plan
    simp (disch := omega) only [m1, z, h1, ↓reduceIte, and_self, bindS, mapS, eV_q, kV_p, kV_l, kV_t, eM_q, kM_s, eB_q, kB_s, eC_q, eW_q, kW_p, aN_q, aC_q, kAC_q, kCons_q, aMv_q, kMv_s, kMv2_q, kMv3_s, eL_q, kL_q, eT_q, kT_q, kP_q, kBl_q, kT2_q, eFz_q, kFz_q, eOp_q, kOp1_q, kOp2_q, eCmp_q, kCm1_q, kCm2_q, eNeg_q, kNeg_q, eChain_q, kCh1_q, kCh2_q, kCh3_q, cT_q, kcT_q, cNot_q, kNot_q, cAnd_q, kcAnd_t, kcAnd_f, cOr_q, kcOr_t, kcOr_f, eIf_q, keIf_t, keIf_f, eAnd_q, keAnd_t, keAnd_f, eOr_q, keOr_t, keOr_f, eNot_q, keNot_q, sIf_q, kcIf_t, kcIf_f, eB1_q, kB1_q, eI2_q, kI2_q, eIsi_q, kIsi_q, kLst_q, eList_q, kList_q, kTpl_q, eTuple_q, kTuple_q, eCall_q, kCall_q, kCall2_q, eCallB_q, kCallB_q, kCl_q, allP_n, allP_c, eIx_q, kIx1_q, kIx2_q, oN_q, oS_q, koS_q, eSl_q, kSl1_q, kSl2_q, kSl3_q, cutT_p, cutT_l, sNx_q, sBk_q, sCt_q, sRetN_q, sSeq_q, kSeq_n, kSeq_r, kSeq_b, kSeq_c, sRet_q, kRet_q, sSet_q, kSet_q, sDrop_q, kDrop_q, gNm_q, gEnd_q, gAnd_q, gTp_q, kTp_q, partsT_p, partsT_t, kNx_q, sAsg_q, kAsg_q, sFor_q, kFor_q, loop_n, loop_c, kLp1_q, kLp2_n, kLp2_c, kLp2_b, kLp2_r, iL_q, kiL_q, iTp_q, kiTp_q, iSg_q, kiSg_q, iR1_q, kR1_q, iR2_q, kR2_q, iEn_q, kEn_q, iZp_q, kZp_q, kZp_t, sForV_q, kForV_q, kForV1_q, kForV2_n, kForV2_r, atL_q, kAtL_q, sApp_q, kApp_q, kApp1_q, kApp2_q, sPut_q, kPut_q, kPut1_q, kPut2_q, kPut3_q, kPut4_q, kPutEnd_q, asI_q, sAugIx_q, kAx_q, kAx0_q, kAx1_q, kAx2_q, kAx3_q, kAx4_q, kAx5_q, kAx6_q, kAx7_q, kAx8_q, sAug_q, kAug_q, kAug2_q, kAug3_q, comp_n, comp_c, kCp1_q, kCp2_t, kCp2_f, kCp3_q, kCp4_q, eComp_q, kComp_q, kLs_q, cYes_q, wipe_n, wipe_c, eM1_q, kM11_q, kM12_q, eSplit_q, kSp1_q, kSp2_q, eJoin_q, kJn1_q, kJn2_q, kJn3_q, kJn4_q, eCat_q, kCt0_q, kCt1_q, kCt2_q, kCt3_pl, kCt3_ll, kCt3_lp, kCt3_pp, itemsT_p, itemsT_t, itemsT_ll, isLT_p, isLT_l, eDn_q, eDix_q, kDx1_q, kDx2_q, kDx3_q, kDx4_q, eDget_q, kDg1_q, kDg2_q, kDg3_q, kDg4_q, kDg5_q, eDin_q, kDi1_q, kDi2_q, kDi3_q, kDi4_t, kDi4_f, sPutD_q, kPd1_q, kPd2_q, kPd3_q, kPd4_q, kPd5_q, atD_q, kAtD_q, dicT_p, dicT_o, keyT_i, keyT_s, toD_d, kV_d, sForM_q, kForM_q, loopT_n, loopT_c, kLt1_q, kLt2_n, kLt2_r, eM0_q, kM0_q, iR3_q, runF_q, kRun_r, kRun_n, cutT_s, gStarts, gFind, startE, T.toDs, T.toD, cleanT, tyD, tyOk, List.length_cons, List.length_nil, List.length_map, List.map_cons, List.map_nil, List.replicate, List.cons_append, List.nil_append, List.getElem?_cons_zero, List.getElem?_cons_succ, List.set_cons_zero, List.set_cons_succ, Nat.reduceAdd, Nat.reduceSub, Nat.reduceLT, Nat.reduceLeDiff, Nat.zero_add, gAdd_i, gAdd_g, gSub_i, gAddI_i, gMul_l, gMul_r, gDiv_i, gMod_i, gPow_i, gMulA_g, cLt_i, cLe_i, cGt_i, cGe_i, eqQ_i, neQ_i, eqQ_g, neQ_g, eqQ_ints, neQ_ints, eqQ_b, neQ_b, inQ_g, notInQ_g, gLen_g, gStr_i, gStr_s, gSum_p, gSum_l, gLen_p, gLen_l, toD_l, toDs_p, allP_map, ixT_lst, ixT_pl, ixT_pt, ixT_sg, signsD_g, atI_0, atI_1, atI_2, atI_3, atI_4, atI_5, atI_6, ofS, sg_len, ifLe, ifLt, rng_len, decide_true, decide_false, Bool.false_eq_true, Bool.not_true, Bool.not_false, Int.reduceLT, Int.reduceLE, Int.reduceEq, kit_ii, kit_ib, kit_ll, kit_bb, kit_bi, kit_ss, kit_tt, kit_tl, kit_lt, kit_ls, kit_li, kit_lb, kit_is, kit_si, kit_sb, kit_ti, kit_tb, kit_ts, toKs_pairs, iZpS_q, kZpS_q, iKy, iIts, iVls, List.nil_append, pNm_q, kPN_s, unb_l, unb_d, unb_o, unb_t, unb_p, unb_b, reb_l, reb_d, reb_o, reb_t, reb_p, reb_b, atP_q, kAtP_s, getP_n, getP_c, stepT_k, stepT_ix, stepT_it, stepT_f, putP_q, kPutP_s, setP_n, setP_c, kSP_s, setS_k, setS_ix, setS_it, setS_f, kPF3_q, pFld_q, kPF1_q, kPF2_o, kPF2_b, kPK4_q, pKey_q, kPK0_q, kPK1_q, kPK2_q, kPK3_d, kPK3_b, kPI5_q, kPI4_t, kPI4_l, pIx_q, kPI1_q, kPI2_q, kPI3_l, kPI3_t, eFl_q, kFl_q, valF_o, eDk_q, kDk1_q, kDk2_q, kDk3_q, valK_d, valK_p, sAppP_q, kAp1_q, kAp2_l, kAp2_b, kAp3_q, kAp4_l, kAp4_b, sExtP_q, kEx1_q, kEx2_l, kEx3_q, kEx4_l, sRevP_q, kRv1_q, kRv2_l, sPutP_q, kPp1_q, kPp2_q, kPp3_q, kPp4_q, kPp5_d, kPp5_b, sFldP_q, kFp1_q, kFp2_q, kFp3_o, ePop_q, kPo1_q, kPo2_d, kPo3_q, kPo4_q, kPo5_q, kPo6_d, kPo7_n, kPo7_d, kCM5_q, kCM4_q, kCM3_q, kCM2_q, kCM1_q, eCallM_q, kRM_q, kRM2_r, kRM2_n, runM_q, startM_q, kKl_q, eKeysL_q, kKL_q, keysT_d, kVl_q, eValsL_q, kVL_q, kDC2_q, eDictC_q, kDC_q, kDP3_q, kDP2_q, eDictP_q, kDP_q, iDic_q, kDc_q, kV_dt]
theorem at_names {NS : List (List Nat)} {i : Nat} (h : i < NS.length) : atI (NS.map wD) (i : Int) = some (wD NS[i]) := by
  rw [atI_map, atI_nat (xs := NS) (j := i) (List.getElem?_eq_getElem h)]; rfl
def DsOk (NS PS : List (List Nat)) (bs : List Debt) : Prop := bs.map (·.1) = NS.take bs.length ∧ bs.length ≤ NS.length ∧ ∀ b ∈ bs, b.2.1 ∈ PS ∧ PlOk b.2.2
theorem debts_ok (cs : List Int) (hc : cs.length ≤ 1000) (NS PS : List (List Nat)) (hN : NS.length ≤ 1000) (hP : 1 ≤ PS.length ∧ PS.length ≤ 1000) :
    ∃ bs, phi_law_debts [.lst (cs.map D.int), .lst (NS.map wD), .lst (PS.map wD)] = some (.lst ((bs.map debtD).map T.p)) ∧ DsOk NS PS bs ∧ bs.length ≤ cs.length := by
  obtain ⟨e, h1, e4, e5, e6, bs, he, ho, hlen⟩ := loop_enum0 (G := gTp 2 (gAnd (gNm 4) (gAnd (gNm 5) gEnd))) (F := B_law_debts_1) D.int (fun done e => ∃ e4 e5 e6 bs, e = [some (.p (.lst (cs.map D.int))), some (.p (.lst (NS.map wD))), some (.p (.lst (PS.map wD))), some (.lst ((bs.map debtD).map T.p)), e4, e5, e6] ∧ DsOk NS PS bs ∧ bs.length ≤ done.length) cs
    (env := [some (.p (.lst (cs.map D.int))), some (.p (.lst (NS.map wD))), some (.p (.lst (PS.map wD))), some (.lst []), none, none, none]) ⟨none, none, none, [], rfl, ⟨by simp, Nat.zero_le _, fun b hb => by cases hb⟩, Nat.le_refl _⟩ (by
    rintro pre x post e hp ⟨e4, e5, e6, bs, rfl, ⟨d1, d2, d3⟩, hl⟩
    have hpl : pre.length < 1000 := by
      have := congrArg List.length hp
      simp at this; omega
    have m1 : phi_law_mixed [.int x, .int (pre.length : Int)] = some (.p (.int (mixed x (pre.length : Int)))) := LW.mixed_ok x _ (by omega)
    have r1 := mixed_range x (pre.length : Int)
    generalize mixed x (pre.length : Int) = m at *
    have hs : (some (T.lst ((bs.map debtD).map T.p))) = some (T.lst ((bs.map debtD).map T.p)) := rfl
    by_cases z : 0 < m % 3
    · by_cases z2 : bs.length < NS.length
      · have z2' : (bs.length : Int) < (NS.length : Int) := by omega
        have n1 := at_names z2
        obtain ⟨p, hpm, p1, _⟩ := atI_in (xs := PS) (i := m / 3 % (PS.length : Int)) (Int.emod_nonneg _ (by omega)) (by have := Int.emod_lt_of_pos (m / 3) (b := (PS.length : Int)) (by omega); exact this)
        have p1 : atI (PS.map wD) (m / 3 % (PS.length : Int)) = some (wD p) := by rw [atI_map, p1]; rfl
        have hp0 : (PS.length : Int) ≠ 0 := by omega
        obtain ⟨l, l1, l2⟩ := plan_ok x (pre.length : Int) (by omega)
        have hla : bs.length < 16000000 := by omega
        refine ⟨[some (.p (.lst (cs.map D.int))), some (.p (.lst (NS.map wD))), some (.p (.lst (PS.map wD))), some (.lst (((bs ++ [(NS[bs.length], p, l)]).map debtD).map T.p)), some (.p (.int (pre.length : Int))), some (.p (.int x)), some (.p (.int m))], .inl ?_, _, _, _, bs ++ [(NS[bs.length], p, l)], rfl, ⟨?_, ?_, ?_⟩, by simp; omega⟩
        · simp (disch := omega) only [B_law_debts_1, m1, z, z2', n1, p1, hp0, l1, hla, ↓reduceIte, and_self, bindS, mapS, eV_q, kV_p, kV_l, kV_t, eM_q, kM_s, eB_q, kB_s, eC_q, eW_q, kW_p, aN_q, aC_q, kAC_q, kCons_q, aMv_q, kMv_s, kMv2_q, kMv3_s, eL_q, kL_q, eT_q, kT_q, kP_q, kBl_q, kT2_q, eFz_q, kFz_q, eOp_q, kOp1_q, kOp2_q, eCmp_q, kCm1_q, kCm2_q, eNeg_q, kNeg_q, eChain_q, kCh1_q, kCh2_q, kCh3_q, cT_q, kcT_q, cNot_q, kNot_q, cAnd_q, kcAnd_t, kcAnd_f, cOr_q, kcOr_t, kcOr_f, eIf_q, keIf_t, keIf_f, eAnd_q, keAnd_t, keAnd_f, eOr_q, keOr_t, keOr_f, eNot_q, keNot_q, sIf_q, kcIf_t, kcIf_f, eB1_q, kB1_q, eI2_q, kI2_q, eIsi_q, kIsi_q, kLst_q, eList_q, kList_q, kTpl_q, eTuple_q, kTuple_q, eCall_q, kCall_q, kCall2_q, eCallB_q, kCallB_q, kCl_q, allP_n, allP_c, eIx_q, kIx1_q, kIx2_q, oN_q, oS_q, koS_q, eSl_q, kSl1_q, kSl2_q, kSl3_q, cutT_p, cutT_l, sNx_q, sBk_q, sCt_q, sRetN_q, sSeq_q, kSeq_n, kSeq_r, kSeq_b, kSeq_c, sRet_q, kRet_q, sSet_q, kSet_q, sDrop_q, kDrop_q, gNm_q, gEnd_q, gAnd_q, gTp_q, kTp_q, partsT_p, partsT_t, kNx_q, sAsg_q, kAsg_q, sFor_q, kFor_q, loop_n, loop_c, kLp1_q, kLp2_n, kLp2_c, kLp2_b, kLp2_r, iL_q, kiL_q, iTp_q, kiTp_q, iSg_q, kiSg_q, iR1_q, kR1_q, iR2_q, kR2_q, iEn_q, kEn_q, iZp_q, kZp_q, kZp_t, sForV_q, kForV_q, kForV1_q, kForV2_n, kForV2_r, atL_q, kAtL_q, sApp_q, kApp_q, kApp1_q, kApp2_q, sPut_q, kPut_q, kPut1_q, kPut2_q, kPut3_q, kPut4_q, kPutEnd_q, asI_q, sAugIx_q, kAx_q, kAx0_q, kAx1_q, kAx2_q, kAx3_q, kAx4_q, kAx5_q, kAx6_q, kAx7_q, kAx8_q, sAug_q, kAug_q, kAug2_q, kAug3_q, comp_n, comp_c, kCp1_q, kCp2_t, kCp2_f, kCp3_q, kCp4_q, eComp_q, kComp_q, kLs_q, cYes_q, wipe_n, wipe_c, eM1_q, kM11_q, kM12_q, eSplit_q, kSp1_q, kSp2_q, eJoin_q, kJn1_q, kJn2_q, kJn3_q, kJn4_q, eCat_q, kCt0_q, kCt1_q, kCt2_q, kCt3_pl, kCt3_ll, kCt3_lp, kCt3_pp, itemsT_p, itemsT_t, itemsT_ll, isLT_p, isLT_l, eDn_q, eDix_q, kDx1_q, kDx2_q, kDx3_q, kDx4_q, eDget_q, kDg1_q, kDg2_q, kDg3_q, kDg4_q, kDg5_q, eDin_q, kDi1_q, kDi2_q, kDi3_q, kDi4_t, kDi4_f, sPutD_q, kPd1_q, kPd2_q, kPd3_q, kPd4_q, kPd5_q, atD_q, kAtD_q, dicT_p, dicT_o, keyT_i, keyT_s, toD_d, kV_d, sForM_q, kForM_q, loopT_n, loopT_c, kLt1_q, kLt2_n, kLt2_r, eM0_q, kM0_q, iR3_q, runF_q, kRun_r, kRun_n, cutT_s, gStarts, gFind, startE, T.toDs, T.toD, cleanT, tyD, tyOk, List.length_cons, List.length_nil, List.length_map, List.map_cons, List.map_nil, List.replicate, List.cons_append, List.nil_append, List.getElem?_cons_zero, List.getElem?_cons_succ, List.set_cons_zero, List.set_cons_succ, Nat.reduceAdd, Nat.reduceSub, Nat.reduceLT, Nat.reduceLeDiff, Nat.zero_add, gAdd_i, gAdd_g, gSub_i, gAddI_i, gMul_l, gMul_r, gDiv_i, gMod_i, gPow_i, gMulA_g, cLt_i, cLe_i, cGt_i, cGe_i, eqQ_i, neQ_i, eqQ_g, neQ_g, eqQ_ints, neQ_ints, eqQ_b, neQ_b, inQ_g, notInQ_g, gLen_g, gStr_i, gStr_s, gSum_p, gSum_l, gLen_p, gLen_l, toD_l, toDs_p, allP_map, ixT_lst, ixT_pl, ixT_pt, ixT_sg, signsD_g, atI_0, atI_1, atI_2, atI_3, atI_4, atI_5, atI_6, ofS, sg_len, ifLe, ifLt, rng_len, decide_true, decide_false, Bool.false_eq_true, Bool.not_true, Bool.not_false, Int.reduceLT, Int.reduceLE, Int.reduceEq, kit_ii, kit_ib, kit_ll, kit_bb, kit_bi, kit_ss, kit_tt, kit_tl, kit_lt, kit_ls, kit_li, kit_lb, kit_is, kit_si, kit_sb, kit_ti, kit_tb, kit_ts, toKs_pairs, iZpS_q, kZpS_q, iKy, iIts, iVls, List.nil_append, pNm_q, kPN_s, unb_l, unb_d, unb_o, unb_t, unb_p, unb_b, reb_l, reb_d, reb_o, reb_t, reb_p, reb_b, atP_q, kAtP_s, getP_n, getP_c, stepT_k, stepT_ix, stepT_it, stepT_f, putP_q, kPutP_s, setP_n, setP_c, kSP_s, setS_k, setS_ix, setS_it, setS_f, kPF3_q, pFld_q, kPF1_q, kPF2_o, kPF2_b, kPK4_q, pKey_q, kPK0_q, kPK1_q, kPK2_q, kPK3_d, kPK3_b, kPI5_q, kPI4_t, kPI4_l, pIx_q, kPI1_q, kPI2_q, kPI3_l, kPI3_t, eFl_q, kFl_q, valF_o, eDk_q, kDk1_q, kDk2_q, kDk3_q, valK_d, valK_p, sAppP_q, kAp1_q, kAp2_l, kAp2_b, kAp3_q, kAp4_l, kAp4_b, sExtP_q, kEx1_q, kEx2_l, kEx3_q, kEx4_l, sRevP_q, kRv1_q, kRv2_l, sPutP_q, kPp1_q, kPp2_q, kPp3_q, kPp4_q, kPp5_d, kPp5_b, sFldP_q, kFp1_q, kFp2_q, kFp3_o, ePop_q, kPo1_q, kPo2_d, kPo3_q, kPo4_q, kPo5_q, kPo6_d, kPo7_n, kPo7_d, kCM5_q, kCM4_q, kCM3_q, kCM2_q, kCM1_q, eCallM_q, kRM_q, kRM2_r, kRM2_n, runM_q, startM_q, kKl_q, eKeysL_q, kKL_q, keysT_d, kVl_q, eValsL_q, kVL_q, kDC2_q, eDictC_q, kDC_q, kDP3_q, kDP2_q, eDictP_q, kDP_q, iDic_q, kDc_q, kV_dt]
          simp [mkTup, allP, T.toD, T.toDs, debtD, wD, toDs_p]
          have := toDs_p (ds := l.map plD); rwa [List.map_map] at this
        · rw [List.map_append, d1, List.length_append]
          show _ = NS.take (bs.length + 1)
          rw [List.take_succ, List.getElem?_eq_getElem z2]; rfl
        · simp; omega
        · intro b hb
          rcases List.mem_append.mp hb with hb | hb
          · exact d3 b hb
          · rw [List.mem_singleton.mp hb]; exact ⟨hpm, l2⟩
      · have z2' : ¬ (bs.length : Int) < (NS.length : Int) := by omega
        refine ⟨[some (.p (.lst (cs.map D.int))), some (.p (.lst (NS.map wD))), some (.p (.lst (PS.map wD))), some (.lst ((bs.map debtD).map T.p)), some (.p (.int (pre.length : Int))), some (.p (.int x)), some (.p (.int m))], .inl ?_, _, _, _, bs, rfl, ⟨d1, d2, d3⟩, by simp; omega⟩
        simp (disch := omega) only [B_law_debts_1, m1, z, z2', ↓reduceIte, and_self, bindS, mapS, eV_q, kV_p, kV_l, kV_t, eM_q, kM_s, eB_q, kB_s, eC_q, eW_q, kW_p, aN_q, aC_q, kAC_q, kCons_q, aMv_q, kMv_s, kMv2_q, kMv3_s, eL_q, kL_q, eT_q, kT_q, kP_q, kBl_q, kT2_q, eFz_q, kFz_q, eOp_q, kOp1_q, kOp2_q, eCmp_q, kCm1_q, kCm2_q, eNeg_q, kNeg_q, eChain_q, kCh1_q, kCh2_q, kCh3_q, cT_q, kcT_q, cNot_q, kNot_q, cAnd_q, kcAnd_t, kcAnd_f, cOr_q, kcOr_t, kcOr_f, eIf_q, keIf_t, keIf_f, eAnd_q, keAnd_t, keAnd_f, eOr_q, keOr_t, keOr_f, eNot_q, keNot_q, sIf_q, kcIf_t, kcIf_f, eB1_q, kB1_q, eI2_q, kI2_q, eIsi_q, kIsi_q, kLst_q, eList_q, kList_q, kTpl_q, eTuple_q, kTuple_q, eCall_q, kCall_q, kCall2_q, eCallB_q, kCallB_q, kCl_q, allP_n, allP_c, eIx_q, kIx1_q, kIx2_q, oN_q, oS_q, koS_q, eSl_q, kSl1_q, kSl2_q, kSl3_q, cutT_p, cutT_l, sNx_q, sBk_q, sCt_q, sRetN_q, sSeq_q, kSeq_n, kSeq_r, kSeq_b, kSeq_c, sRet_q, kRet_q, sSet_q, kSet_q, sDrop_q, kDrop_q, gNm_q, gEnd_q, gAnd_q, gTp_q, kTp_q, partsT_p, partsT_t, kNx_q, sAsg_q, kAsg_q, sFor_q, kFor_q, loop_n, loop_c, kLp1_q, kLp2_n, kLp2_c, kLp2_b, kLp2_r, iL_q, kiL_q, iTp_q, kiTp_q, iSg_q, kiSg_q, iR1_q, kR1_q, iR2_q, kR2_q, iEn_q, kEn_q, iZp_q, kZp_q, kZp_t, sForV_q, kForV_q, kForV1_q, kForV2_n, kForV2_r, atL_q, kAtL_q, sApp_q, kApp_q, kApp1_q, kApp2_q, sPut_q, kPut_q, kPut1_q, kPut2_q, kPut3_q, kPut4_q, kPutEnd_q, asI_q, sAugIx_q, kAx_q, kAx0_q, kAx1_q, kAx2_q, kAx3_q, kAx4_q, kAx5_q, kAx6_q, kAx7_q, kAx8_q, sAug_q, kAug_q, kAug2_q, kAug3_q, comp_n, comp_c, kCp1_q, kCp2_t, kCp2_f, kCp3_q, kCp4_q, eComp_q, kComp_q, kLs_q, cYes_q, wipe_n, wipe_c, eM1_q, kM11_q, kM12_q, eSplit_q, kSp1_q, kSp2_q, eJoin_q, kJn1_q, kJn2_q, kJn3_q, kJn4_q, eCat_q, kCt0_q, kCt1_q, kCt2_q, kCt3_pl, kCt3_ll, kCt3_lp, kCt3_pp, itemsT_p, itemsT_t, itemsT_ll, isLT_p, isLT_l, eDn_q, eDix_q, kDx1_q, kDx2_q, kDx3_q, kDx4_q, eDget_q, kDg1_q, kDg2_q, kDg3_q, kDg4_q, kDg5_q, eDin_q, kDi1_q, kDi2_q, kDi3_q, kDi4_t, kDi4_f, sPutD_q, kPd1_q, kPd2_q, kPd3_q, kPd4_q, kPd5_q, atD_q, kAtD_q, dicT_p, dicT_o, keyT_i, keyT_s, toD_d, kV_d, sForM_q, kForM_q, loopT_n, loopT_c, kLt1_q, kLt2_n, kLt2_r, eM0_q, kM0_q, iR3_q, runF_q, kRun_r, kRun_n, cutT_s, gStarts, gFind, startE, T.toDs, T.toD, cleanT, tyD, tyOk, List.length_cons, List.length_nil, List.length_map, List.map_cons, List.map_nil, List.replicate, List.cons_append, List.nil_append, List.getElem?_cons_zero, List.getElem?_cons_succ, List.set_cons_zero, List.set_cons_succ, Nat.reduceAdd, Nat.reduceSub, Nat.reduceLT, Nat.reduceLeDiff, Nat.zero_add, gAdd_i, gAdd_g, gSub_i, gAddI_i, gMul_l, gMul_r, gDiv_i, gMod_i, gPow_i, gMulA_g, cLt_i, cLe_i, cGt_i, cGe_i, eqQ_i, neQ_i, eqQ_g, neQ_g, eqQ_ints, neQ_ints, eqQ_b, neQ_b, inQ_g, notInQ_g, gLen_g, gStr_i, gStr_s, gSum_p, gSum_l, gLen_p, gLen_l, toD_l, toDs_p, allP_map, ixT_lst, ixT_pl, ixT_pt, ixT_sg, signsD_g, atI_0, atI_1, atI_2, atI_3, atI_4, atI_5, atI_6, ofS, sg_len, ifLe, ifLt, rng_len, decide_true, decide_false, Bool.false_eq_true, Bool.not_true, Bool.not_false, Int.reduceLT, Int.reduceLE, Int.reduceEq, kit_ii, kit_ib, kit_ll, kit_bb, kit_bi, kit_ss, kit_tt, kit_tl, kit_lt, kit_ls, kit_li, kit_lb, kit_is, kit_si, kit_sb, kit_ti, kit_tb, kit_ts, toKs_pairs, iZpS_q, kZpS_q, iKy, iIts, iVls, List.nil_append, pNm_q, kPN_s, unb_l, unb_d, unb_o, unb_t, unb_p, unb_b, reb_l, reb_d, reb_o, reb_t, reb_p, reb_b, atP_q, kAtP_s, getP_n, getP_c, stepT_k, stepT_ix, stepT_it, stepT_f, putP_q, kPutP_s, setP_n, setP_c, kSP_s, setS_k, setS_ix, setS_it, setS_f, kPF3_q, pFld_q, kPF1_q, kPF2_o, kPF2_b, kPK4_q, pKey_q, kPK0_q, kPK1_q, kPK2_q, kPK3_d, kPK3_b, kPI5_q, kPI4_t, kPI4_l, pIx_q, kPI1_q, kPI2_q, kPI3_l, kPI3_t, eFl_q, kFl_q, valF_o, eDk_q, kDk1_q, kDk2_q, kDk3_q, valK_d, valK_p, sAppP_q, kAp1_q, kAp2_l, kAp2_b, kAp3_q, kAp4_l, kAp4_b, sExtP_q, kEx1_q, kEx2_l, kEx3_q, kEx4_l, sRevP_q, kRv1_q, kRv2_l, sPutP_q, kPp1_q, kPp2_q, kPp3_q, kPp4_q, kPp5_d, kPp5_b, sFldP_q, kFp1_q, kFp2_q, kFp3_o, ePop_q, kPo1_q, kPo2_d, kPo3_q, kPo4_q, kPo5_q, kPo6_d, kPo7_n, kPo7_d, kCM5_q, kCM4_q, kCM3_q, kCM2_q, kCM1_q, eCallM_q, kRM_q, kRM2_r, kRM2_n, runM_q, startM_q, kKl_q, eKeysL_q, kKL_q, keysT_d, kVl_q, eValsL_q, kVL_q, kDC2_q, eDictC_q, kDC_q, kDP3_q, kDP2_q, eDictP_q, kDP_q, iDic_q, kDc_q, kV_dt]
    · refine ⟨[some (.p (.lst (cs.map D.int))), some (.p (.lst (NS.map wD))), some (.p (.lst (PS.map wD))), some (.lst ((bs.map debtD).map T.p)), some (.p (.int (pre.length : Int))), some (.p (.int x)), some (.p (.int m))], .inl ?_, _, _, _, bs, rfl, ⟨d1, d2, d3⟩, by simp; omega⟩
      simp (disch := omega) only [B_law_debts_1, m1, z, ↓reduceIte, and_self, bindS, mapS, eV_q, kV_p, kV_l, kV_t, eM_q, kM_s, eB_q, kB_s, eC_q, eW_q, kW_p, aN_q, aC_q, kAC_q, kCons_q, aMv_q, kMv_s, kMv2_q, kMv3_s, eL_q, kL_q, eT_q, kT_q, kP_q, kBl_q, kT2_q, eFz_q, kFz_q, eOp_q, kOp1_q, kOp2_q, eCmp_q, kCm1_q, kCm2_q, eNeg_q, kNeg_q, eChain_q, kCh1_q, kCh2_q, kCh3_q, cT_q, kcT_q, cNot_q, kNot_q, cAnd_q, kcAnd_t, kcAnd_f, cOr_q, kcOr_t, kcOr_f, eIf_q, keIf_t, keIf_f, eAnd_q, keAnd_t, keAnd_f, eOr_q, keOr_t, keOr_f, eNot_q, keNot_q, sIf_q, kcIf_t, kcIf_f, eB1_q, kB1_q, eI2_q, kI2_q, eIsi_q, kIsi_q, kLst_q, eList_q, kList_q, kTpl_q, eTuple_q, kTuple_q, eCall_q, kCall_q, kCall2_q, eCallB_q, kCallB_q, kCl_q, allP_n, allP_c, eIx_q, kIx1_q, kIx2_q, oN_q, oS_q, koS_q, eSl_q, kSl1_q, kSl2_q, kSl3_q, cutT_p, cutT_l, sNx_q, sBk_q, sCt_q, sRetN_q, sSeq_q, kSeq_n, kSeq_r, kSeq_b, kSeq_c, sRet_q, kRet_q, sSet_q, kSet_q, sDrop_q, kDrop_q, gNm_q, gEnd_q, gAnd_q, gTp_q, kTp_q, partsT_p, partsT_t, kNx_q, sAsg_q, kAsg_q, sFor_q, kFor_q, loop_n, loop_c, kLp1_q, kLp2_n, kLp2_c, kLp2_b, kLp2_r, iL_q, kiL_q, iTp_q, kiTp_q, iSg_q, kiSg_q, iR1_q, kR1_q, iR2_q, kR2_q, iEn_q, kEn_q, iZp_q, kZp_q, kZp_t, sForV_q, kForV_q, kForV1_q, kForV2_n, kForV2_r, atL_q, kAtL_q, sApp_q, kApp_q, kApp1_q, kApp2_q, sPut_q, kPut_q, kPut1_q, kPut2_q, kPut3_q, kPut4_q, kPutEnd_q, asI_q, sAugIx_q, kAx_q, kAx0_q, kAx1_q, kAx2_q, kAx3_q, kAx4_q, kAx5_q, kAx6_q, kAx7_q, kAx8_q, sAug_q, kAug_q, kAug2_q, kAug3_q, comp_n, comp_c, kCp1_q, kCp2_t, kCp2_f, kCp3_q, kCp4_q, eComp_q, kComp_q, kLs_q, cYes_q, wipe_n, wipe_c, eM1_q, kM11_q, kM12_q, eSplit_q, kSp1_q, kSp2_q, eJoin_q, kJn1_q, kJn2_q, kJn3_q, kJn4_q, eCat_q, kCt0_q, kCt1_q, kCt2_q, kCt3_pl, kCt3_ll, kCt3_lp, kCt3_pp, itemsT_p, itemsT_t, itemsT_ll, isLT_p, isLT_l, eDn_q, eDix_q, kDx1_q, kDx2_q, kDx3_q, kDx4_q, eDget_q, kDg1_q, kDg2_q, kDg3_q, kDg4_q, kDg5_q, eDin_q, kDi1_q, kDi2_q, kDi3_q, kDi4_t, kDi4_f, sPutD_q, kPd1_q, kPd2_q, kPd3_q, kPd4_q, kPd5_q, atD_q, kAtD_q, dicT_p, dicT_o, keyT_i, keyT_s, toD_d, kV_d, sForM_q, kForM_q, loopT_n, loopT_c, kLt1_q, kLt2_n, kLt2_r, eM0_q, kM0_q, iR3_q, runF_q, kRun_r, kRun_n, cutT_s, gStarts, gFind, startE, T.toDs, T.toD, cleanT, tyD, tyOk, List.length_cons, List.length_nil, List.length_map, List.map_cons, List.map_nil, List.replicate, List.cons_append, List.nil_append, List.getElem?_cons_zero, List.getElem?_cons_succ, List.set_cons_zero, List.set_cons_succ, Nat.reduceAdd, Nat.reduceSub, Nat.reduceLT, Nat.reduceLeDiff, Nat.zero_add, gAdd_i, gAdd_g, gSub_i, gAddI_i, gMul_l, gMul_r, gDiv_i, gMod_i, gPow_i, gMulA_g, cLt_i, cLe_i, cGt_i, cGe_i, eqQ_i, neQ_i, eqQ_g, neQ_g, eqQ_ints, neQ_ints, eqQ_b, neQ_b, inQ_g, notInQ_g, gLen_g, gStr_i, gStr_s, gSum_p, gSum_l, gLen_p, gLen_l, toD_l, toDs_p, allP_map, ixT_lst, ixT_pl, ixT_pt, ixT_sg, signsD_g, atI_0, atI_1, atI_2, atI_3, atI_4, atI_5, atI_6, ofS, sg_len, ifLe, ifLt, rng_len, decide_true, decide_false, Bool.false_eq_true, Bool.not_true, Bool.not_false, Int.reduceLT, Int.reduceLE, Int.reduceEq, kit_ii, kit_ib, kit_ll, kit_bb, kit_bi, kit_ss, kit_tt, kit_tl, kit_lt, kit_ls, kit_li, kit_lb, kit_is, kit_si, kit_sb, kit_ti, kit_tb, kit_ts, toKs_pairs, iZpS_q, kZpS_q, iKy, iIts, iVls, List.nil_append, pNm_q, kPN_s, unb_l, unb_d, unb_o, unb_t, unb_p, unb_b, reb_l, reb_d, reb_o, reb_t, reb_p, reb_b, atP_q, kAtP_s, getP_n, getP_c, stepT_k, stepT_ix, stepT_it, stepT_f, putP_q, kPutP_s, setP_n, setP_c, kSP_s, setS_k, setS_ix, setS_it, setS_f, kPF3_q, pFld_q, kPF1_q, kPF2_o, kPF2_b, kPK4_q, pKey_q, kPK0_q, kPK1_q, kPK2_q, kPK3_d, kPK3_b, kPI5_q, kPI4_t, kPI4_l, pIx_q, kPI1_q, kPI2_q, kPI3_l, kPI3_t, eFl_q, kFl_q, valF_o, eDk_q, kDk1_q, kDk2_q, kDk3_q, valK_d, valK_p, sAppP_q, kAp1_q, kAp2_l, kAp2_b, kAp3_q, kAp4_l, kAp4_b, sExtP_q, kEx1_q, kEx2_l, kEx3_q, kEx4_l, sRevP_q, kRv1_q, kRv2_l, sPutP_q, kPp1_q, kPp2_q, kPp3_q, kPp4_q, kPp5_d, kPp5_b, sFldP_q, kFp1_q, kFp2_q, kFp3_o, ePop_q, kPo1_q, kPo2_d, kPo3_q, kPo4_q, kPo5_q, kPo6_d, kPo7_n, kPo7_d, kCM5_q, kCM4_q, kCM3_q, kCM2_q, kCM1_q, eCallM_q, kRM_q, kRM2_r, kRM2_n, runM_q, startM_q, kKl_q, eKeysL_q, kKL_q, keysT_d, kVl_q, eValsL_q, kVL_q, kDC2_q, eDictC_q, kDC_q, kDP3_q, kDP2_q, eDictP_q, kDP_q, iDic_q, kDc_q, kV_dt])
  subst he
  refine ⟨bs, ?_, ho, hlen⟩
  unfold phi_law_debts F_law_debts
  simp (disch := omega) only [h1, ↓reduceIte, and_self, bindS, mapS, eV_q, kV_p, kV_l, kV_t, eM_q, kM_s, eB_q, kB_s, eC_q, eW_q, kW_p, aN_q, aC_q, kAC_q, kCons_q, aMv_q, kMv_s, kMv2_q, kMv3_s, eL_q, kL_q, eT_q, kT_q, kP_q, kBl_q, kT2_q, eFz_q, kFz_q, eOp_q, kOp1_q, kOp2_q, eCmp_q, kCm1_q, kCm2_q, eNeg_q, kNeg_q, eChain_q, kCh1_q, kCh2_q, kCh3_q, cT_q, kcT_q, cNot_q, kNot_q, cAnd_q, kcAnd_t, kcAnd_f, cOr_q, kcOr_t, kcOr_f, eIf_q, keIf_t, keIf_f, eAnd_q, keAnd_t, keAnd_f, eOr_q, keOr_t, keOr_f, eNot_q, keNot_q, sIf_q, kcIf_t, kcIf_f, eB1_q, kB1_q, eI2_q, kI2_q, eIsi_q, kIsi_q, kLst_q, eList_q, kList_q, kTpl_q, eTuple_q, kTuple_q, eCall_q, kCall_q, kCall2_q, eCallB_q, kCallB_q, kCl_q, allP_n, allP_c, eIx_q, kIx1_q, kIx2_q, oN_q, oS_q, koS_q, eSl_q, kSl1_q, kSl2_q, kSl3_q, cutT_p, cutT_l, sNx_q, sBk_q, sCt_q, sRetN_q, sSeq_q, kSeq_n, kSeq_r, kSeq_b, kSeq_c, sRet_q, kRet_q, sSet_q, kSet_q, sDrop_q, kDrop_q, gNm_q, gEnd_q, gAnd_q, gTp_q, kTp_q, partsT_p, partsT_t, kNx_q, sAsg_q, kAsg_q, sFor_q, kFor_q, loop_n, loop_c, kLp1_q, kLp2_n, kLp2_c, kLp2_b, kLp2_r, iL_q, kiL_q, iTp_q, kiTp_q, iSg_q, kiSg_q, iR1_q, kR1_q, iR2_q, kR2_q, iEn_q, kEn_q, iZp_q, kZp_q, kZp_t, sForV_q, kForV_q, kForV1_q, kForV2_n, kForV2_r, atL_q, kAtL_q, sApp_q, kApp_q, kApp1_q, kApp2_q, sPut_q, kPut_q, kPut1_q, kPut2_q, kPut3_q, kPut4_q, kPutEnd_q, asI_q, sAugIx_q, kAx_q, kAx0_q, kAx1_q, kAx2_q, kAx3_q, kAx4_q, kAx5_q, kAx6_q, kAx7_q, kAx8_q, sAug_q, kAug_q, kAug2_q, kAug3_q, comp_n, comp_c, kCp1_q, kCp2_t, kCp2_f, kCp3_q, kCp4_q, eComp_q, kComp_q, kLs_q, cYes_q, wipe_n, wipe_c, eM1_q, kM11_q, kM12_q, eSplit_q, kSp1_q, kSp2_q, eJoin_q, kJn1_q, kJn2_q, kJn3_q, kJn4_q, eCat_q, kCt0_q, kCt1_q, kCt2_q, kCt3_pl, kCt3_ll, kCt3_lp, kCt3_pp, itemsT_p, itemsT_t, itemsT_ll, isLT_p, isLT_l, eDn_q, eDix_q, kDx1_q, kDx2_q, kDx3_q, kDx4_q, eDget_q, kDg1_q, kDg2_q, kDg3_q, kDg4_q, kDg5_q, eDin_q, kDi1_q, kDi2_q, kDi3_q, kDi4_t, kDi4_f, sPutD_q, kPd1_q, kPd2_q, kPd3_q, kPd4_q, kPd5_q, atD_q, kAtD_q, dicT_p, dicT_o, keyT_i, keyT_s, toD_d, kV_d, sForM_q, kForM_q, loopT_n, loopT_c, kLt1_q, kLt2_n, kLt2_r, eM0_q, kM0_q, iR3_q, runF_q, kRun_r, kRun_n, cutT_s, gStarts, gFind, startE, T.toDs, T.toD, cleanT, tyD, tyOk, List.length_cons, List.length_nil, List.length_map, List.map_cons, List.map_nil, List.replicate, List.cons_append, List.nil_append, List.getElem?_cons_zero, List.getElem?_cons_succ, List.set_cons_zero, List.set_cons_succ, Nat.reduceAdd, Nat.reduceSub, Nat.reduceLT, Nat.reduceLeDiff, Nat.zero_add, gAdd_i, gAdd_g, gSub_i, gAddI_i, gMul_l, gMul_r, gDiv_i, gMod_i, gPow_i, gMulA_g, cLt_i, cLe_i, cGt_i, cGe_i, eqQ_i, neQ_i, eqQ_g, neQ_g, eqQ_ints, neQ_ints, eqQ_b, neQ_b, inQ_g, notInQ_g, gLen_g, gStr_i, gStr_s, gSum_p, gSum_l, gLen_p, gLen_l, toD_l, toDs_p, allP_map, ixT_lst, ixT_pl, ixT_pt, ixT_sg, signsD_g, atI_0, atI_1, atI_2, atI_3, atI_4, atI_5, atI_6, ofS, sg_len, ifLe, ifLt, rng_len, decide_true, decide_false, Bool.false_eq_true, Bool.not_true, Bool.not_false, Int.reduceLT, Int.reduceLE, Int.reduceEq, kit_ii, kit_ib, kit_ll, kit_bb, kit_bi, kit_ss, kit_tt, kit_tl, kit_lt, kit_ls, kit_li, kit_lb, kit_is, kit_si, kit_sb, kit_ti, kit_tb, kit_ts, toKs_pairs, iZpS_q, kZpS_q, iKy, iIts, iVls, List.nil_append, pNm_q, kPN_s, unb_l, unb_d, unb_o, unb_t, unb_p, unb_b, reb_l, reb_d, reb_o, reb_t, reb_p, reb_b, atP_q, kAtP_s, getP_n, getP_c, stepT_k, stepT_ix, stepT_it, stepT_f, putP_q, kPutP_s, setP_n, setP_c, kSP_s, setS_k, setS_ix, setS_it, setS_f, kPF3_q, pFld_q, kPF1_q, kPF2_o, kPF2_b, kPK4_q, pKey_q, kPK0_q, kPK1_q, kPK2_q, kPK3_d, kPK3_b, kPI5_q, kPI4_t, kPI4_l, pIx_q, kPI1_q, kPI2_q, kPI3_l, kPI3_t, eFl_q, kFl_q, valF_o, eDk_q, kDk1_q, kDk2_q, kDk3_q, valK_d, valK_p, sAppP_q, kAp1_q, kAp2_l, kAp2_b, kAp3_q, kAp4_l, kAp4_b, sExtP_q, kEx1_q, kEx2_l, kEx3_q, kEx4_l, sRevP_q, kRv1_q, kRv2_l, sPutP_q, kPp1_q, kPp2_q, kPp3_q, kPp4_q, kPp5_d, kPp5_b, sFldP_q, kFp1_q, kFp2_q, kFp3_o, ePop_q, kPo1_q, kPo2_d, kPo3_q, kPo4_q, kPo5_q, kPo6_d, kPo7_n, kPo7_d, kCM5_q, kCM4_q, kCM3_q, kCM2_q, kCM1_q, eCallM_q, kRM_q, kRM2_r, kRM2_n, runM_q, startM_q, kKl_q, eKeysL_q, kKL_q, keysT_d, kVl_q, eValsL_q, kVL_q, kDC2_q, eDictC_q, kDC_q, kDP3_q, kDP2_q, eDictP_q, kDP_q, iDic_q, kDc_q, kV_dt]
/-! ### what is left, by days -/
theorem passed_eq : ∀ (n : Nat) (ps : List Pn) (lo : Int), passed ps lo n = ps.map fun x => (x.1, x.2.filter fun p => decide (p.1 < lo) || decide (lo + (n : Int) ≤ p.1))
  | 0, ps, lo => by
    show ps = _
    have : (fun x : Pn => (x.1, x.2.filter fun p => decide (p.1 < lo) || decide (lo + ((0 : Nat) : Int) ≤ p.1))) = id := by
      funext x
      rw [List.filter_eq_self.mpr]
      · rfl
      · intro p _
        rw [Bool.or_eq_true, decide_eq_true_eq, decide_eq_true_eq]; omega
    rw [this, List.map_id]
  | n + 1, ps, lo => by
    show passed (cutL ps lo) (lo + 1) n = _
    rw [passed_eq n, cutL, List.map_map]
    congr 1; funext x
    show ((x.1, _) : Pn) = (x.1, _)
    congr 1
    show List.filter _ (offDay lo x.2) = _
    unfold offDay
    rw [List.filter_filter]
    congr 1; funext p
    rw [Bool.eq_iff_iff]
    simp only [Bool.and_eq_true, Bool.or_eq_true, decide_eq_true_eq, ne_eq]
    omega
theorem left_eq {bs : List Debt} (h : ∀ b ∈ bs, PlOk b.2.2) (many : Int) (hm : 0 ≤ many) : passed (bs.map toPn) 1 many.toNat = bs.map fun b => (b.1, b.2.2.filter fun p => decide (many < p.1)) := by
  rw [passed_eq, List.map_map]
  refine List.map_congr_left fun b hb => ?_
  show ((b.1, _) : Pn) = (b.1, _)
  congr 1
  refine List.filter_congr fun p hp => ?_
  have := ((h b hb).2.1 p hp).1.1
  rw [Bool.eq_iff_iff]
  simp only [Bool.or_eq_true, decide_eq_true_eq]
  omega
theorem ds_ok {NS PS : List (List Nat)} {bs : List Debt} (hN : NS.Nodup) (hl : NS.length ≤ 1000) (h : DsOk NS PS bs) : BsOk bs := by
  obtain ⟨h1, h2, h3⟩ := h
  refine ⟨?_, fun b hb => ⟨(h3 b hb).2.1, fun p hp => ((h3 b hb).2.2.1 p hp).2.1⟩, by omega⟩
  rw [h1]
  exact (List.take_sublist _ _).nodup hN
end LP

--ev++
set_option Elab.async false
set_option linter.all false
set_option maxRecDepth 100000
set_option maxHeartbeats 4000000
namespace K14
open PySem PySem.Spec PyProof.Rows L2 DL
open LW (wD NameOk mixed mixed_range namesL)
open LP (Pl Pn Debt Rw plD plK pnT toPn debtD rwD atDay paidL PnOk PlOk DsOk BsOk dayT toldT leftL passed sumP gT_pair)
theorem mixed_ok (c k : Int) (hk : -18446744073709551616 < k ∧ k < 18446744073709551616) : phi_law_mixed [.int c, .int k] = some (.p (.int (mixed c k))) := LW.mixed_ok c k hk
theorem names_ok (c many : Int) (hm : 0 ≤ many ∧ many ≤ 800) : phi_law_names [.int c, .int many] = some (.lst (((namesL c many).map wD).map T.p)) := LW.names_ok c many hm
theorem alike_ok (d : D) (h : LW.aOk 7 d = true) : phi_law_alike 8 [d, d] = some (.p (.bl true)) := LW.alike_refl 7 d h
theorem cell_ok (ns : List Int) (k : Int) (hk : 0 ≤ k) : ∃ c, phi_law_cell [.lst (ns.map D.int), .int k] = some (.p (.int c)) := LP.cell_ok ns k hk
theorem debts_ok (cs : List Int) (hc : cs.length ≤ 1000) (NS PS : List (List Nat)) (hN : NS.length ≤ 1000) (hP : 1 ≤ PS.length ∧ PS.length ≤ 1000) :
    ∃ bs, phi_law_debts [.lst (cs.map D.int), .lst (NS.map wD), .lst (PS.map wD)] = some (.lst ((bs.map debtD).map T.p)) ∧ DsOk NS PS bs ∧ bs.length ≤ cs.length := LP.debts_ok cs hc NS PS hN hP
theorem told_ok {bs : List Debt} (h : BsOk bs) {many : Int} (hm : 0 ≤ many ∧ many ≤ 1000) : phi_told_days [.lst (bs.map debtD), .lst [], .int many] = some (toldT bs many.toNat) := LP.told_ok h hm
/-- the debts handed in -/
def handT (b : Debt) : T := .tup [.p (.str (sg b.1)), .p (.str (sg b.2.1)), .lst ((b.2.2.map plD).map T.p)]
theorem hand_toD (b : Debt) : (handT b).toD = debtD b := by
  show D.tup [.str (sg b.1), .str (sg b.2.1), (T.lst ((b.2.2.map plD).map T.p)).toD] = _
  rw [toD_l]; rfl
theorem hand_toDs (bs : List Debt) : T.toDs (bs.map handT) = bs.map debtD := toDs_map2 _ _ _ fun b _ => hand_toD b
theorem hand_comp (a0 a1 a2 a3 a4 a5 a6 a10 a11 a12 a13 a14 a15 a16 a17 : Option T) (bs : List Debt) (h : ∀ b ∈ bs, PlOk b.2.2) :
    compD [7, 8, 9] (gTp 3 (gAnd (gNm 7) (gAnd (gNm 8) (gAnd (gNm 9) gEnd)))) cYes (eT (aC (eV 7) (aC (eV 8) (aC (eList (eB 9)) aN)))) (bs.map debtD) [a0, a1, a2, a3, a4, a5, a6, none, none, none, a10, a11, a12, a13, a14, a15, a16, a17] =
      some (bs.map handT, [a0, a1, a2, a3, a4, a5, a6, none, none, none, a10, a11, a12, a13, a14, a15, a16, a17]) := by
  refine comp_ev debtD handT bs fun x hx r rest ih => ?_
  obtain ⟨x1, x2, x3⟩ := x
  rw [show debtD (x1, x2, x3) = .tup [.str (sg x1), .str (sg x2), .lst (x3.map plD)] from rfl]
  simp (disch := omega) only [ih, mkTup, ↓reduceIte, and_self, bindS, mapS, eV_q, kV_p, kV_l, kV_t, eM_q, kM_s, eB_q, kB_s, eC_q, eW_q, kW_p, aN_q, aC_q, kAC_q, kCons_q, aMv_q, kMv_s, kMv2_q, kMv3_s, eL_q, kL_q, eT_q, kT_q, kP_q, kBl_q, kT2_q, eFz_q, kFz_q, eOp_q, kOp1_q, kOp2_q, eCmp_q, kCm1_q, kCm2_q, eNeg_q, kNeg_q, eChain_q, kCh1_q, kCh2_q, kCh3_q, cT_q, kcT_q, cNot_q, kNot_q, cAnd_q, kcAnd_t, kcAnd_f, cOr_q, kcOr_t, kcOr_f, eIf_q, keIf_t, keIf_f, eAnd_q, keAnd_t, keAnd_f, eOr_q, keOr_t, keOr_f, eNot_q, keNot_q, sIf_q, kcIf_t, kcIf_f, eB1_q, kB1_q, eI2_q, kI2_q, eIsi_q, kIsi_q, kLst_q, eList_q, kList_q, kTpl_q, eTuple_q, kTuple_q, eCall_q, kCall_q, kCall2_q, eCallB_q, kCallB_q, kCl_q, allP_n, allP_c, eIx_q, kIx1_q, kIx2_q, oN_q, oS_q, koS_q, eSl_q, kSl1_q, kSl2_q, kSl3_q, cutT_p, cutT_l, sNx_q, sBk_q, sCt_q, sRetN_q, sSeq_q, kSeq_n, kSeq_r, kSeq_b, kSeq_c, sRet_q, kRet_q, sSet_q, kSet_q, sDrop_q, kDrop_q, gNm_q, gEnd_q, gAnd_q, gTp_q, kTp_q, partsT_p, partsT_t, kNx_q, sAsg_q, kAsg_q, sFor_q, kFor_q, loop_n, loop_c, kLp1_q, kLp2_n, kLp2_c, kLp2_b, kLp2_r, iL_q, kiL_q, iTp_q, kiTp_q, iSg_q, kiSg_q, iR1_q, kR1_q, iR2_q, kR2_q, iEn_q, kEn_q, iZp_q, kZp_q, kZp_t, sForV_q, kForV_q, kForV1_q, kForV2_n, kForV2_r, atL_q, kAtL_q, sApp_q, kApp_q, kApp1_q, kApp2_q, sPut_q, kPut_q, kPut1_q, kPut2_q, kPut3_q, kPut4_q, kPutEnd_q, asI_q, sAugIx_q, kAx_q, kAx0_q, kAx1_q, kAx2_q, kAx3_q, kAx4_q, kAx5_q, kAx6_q, kAx7_q, kAx8_q, sAug_q, kAug_q, kAug2_q, kAug3_q, comp_n, comp_c, kCp1_q, kCp2_t, kCp2_f, kCp3_q, kCp4_q, eComp_q, kComp_q, kLs_q, cYes_q, wipe_n, wipe_c, eM1_q, kM11_q, kM12_q, eSplit_q, kSp1_q, kSp2_q, eJoin_q, kJn1_q, kJn2_q, kJn3_q, kJn4_q, eCat_q, kCt0_q, kCt1_q, kCt2_q, kCt3_pl, kCt3_ll, kCt3_lp, kCt3_pp, itemsT_p, itemsT_t, itemsT_ll, isLT_p, isLT_l, eDn_q, eDix_q, kDx1_q, kDx2_q, kDx3_q, kDx4_q, eDget_q, kDg1_q, kDg2_q, kDg3_q, kDg4_q, kDg5_q, eDin_q, kDi1_q, kDi2_q, kDi3_q, kDi4_t, kDi4_f, sPutD_q, kPd1_q, kPd2_q, kPd3_q, kPd4_q, kPd5_q, atD_q, kAtD_q, dicT_p, dicT_o, keyT_i, keyT_s, toD_d, kV_d, sForM_q, kForM_q, loopT_n, loopT_c, kLt1_q, kLt2_n, kLt2_r, eM0_q, kM0_q, iR3_q, runF_q, kRun_r, kRun_n, cutT_s, gStarts, gFind, startE, T.toDs, T.toD, cleanT, tyD, tyOk, List.length_cons, List.length_nil, List.length_map, List.map_cons, List.map_nil, List.replicate, List.cons_append, List.nil_append, List.getElem?_cons_zero, List.getElem?_cons_succ, List.set_cons_zero, List.set_cons_succ, Nat.reduceAdd, Nat.reduceSub, Nat.reduceLT, Nat.reduceLeDiff, Nat.zero_add, gAdd_i, gAdd_g, gSub_i, gAddI_i, gMul_l, gMul_r, gDiv_i, gMod_i, gPow_i, gMulA_g, cLt_i, cLe_i, cGt_i, cGe_i, eqQ_i, neQ_i, eqQ_g, neQ_g, eqQ_ints, neQ_ints, eqQ_b, neQ_b, inQ_g, notInQ_g, gLen_g, gStr_i, gStr_s, gSum_p, gSum_l, gLen_p, gLen_l, toD_l, toDs_p, allP_map, ixT_lst, ixT_pl, ixT_pt, ixT_sg, signsD_g, atI_0, atI_1, atI_2, atI_3, atI_4, atI_5, atI_6, ofS, sg_len, ifLe, ifLt, rng_len, decide_true, decide_false, Bool.false_eq_true, Bool.not_true, Bool.not_false, Int.reduceLT, Int.reduceLE, Int.reduceEq, kit_ii, kit_ib, kit_ll, kit_bb, kit_bi, kit_ss, kit_tt, kit_tl, kit_lt, kit_ls, kit_li, kit_lb, kit_is, kit_si, kit_sb, kit_ti, kit_tb, kit_ts, toKs_pairs, iZpS_q, kZpS_q, iKy, iIts, iVls, List.nil_append, pNm_q, kPN_s, unb_l, unb_d, unb_o, unb_t, unb_p, unb_b, reb_l, reb_d, reb_o, reb_t, reb_p, reb_b, atP_q, kAtP_s, getP_n, getP_c, stepT_k, stepT_ix, stepT_it, stepT_f, putP_q, kPutP_s, setP_n, setP_c, kSP_s, setS_k, setS_ix, setS_it, setS_f, kPF3_q, pFld_q, kPF1_q, kPF2_o, kPF2_b, kPK4_q, pKey_q, kPK0_q, kPK1_q, kPK2_q, kPK3_d, kPK3_b, kPI5_q, kPI4_t, kPI4_l, pIx_q, kPI1_q, kPI2_q, kPI3_l, kPI3_t, eFl_q, kFl_q, valF_o, eDk_q, kDk1_q, kDk2_q, kDk3_q, valK_d, valK_p, sAppP_q, kAp1_q, kAp2_l, kAp2_b, kAp3_q, kAp4_l, kAp4_b, sExtP_q, kEx1_q, kEx2_l, kEx3_q, kEx4_l, sRevP_q, kRv1_q, kRv2_l, sPutP_q, kPp1_q, kPp2_q, kPp3_q, kPp4_q, kPp5_d, kPp5_b, sFldP_q, kFp1_q, kFp2_q, kFp3_o, ePop_q, kPo1_q, kPo2_d, kPo3_q, kPo4_q, kPo5_q, kPo6_d, kPo7_n, kPo7_d, kCM5_q, kCM4_q, kCM3_q, kCM2_q, kCM1_q, eCallM_q, kRM_q, kRM2_r, kRM2_n, runM_q, startM_q, kKl_q, eKeysL_q, kKL_q, keysT_d, kVl_q, eValsL_q, kVL_q, kDC2_q, eDictC_q, kDC_q, kDP3_q, kDP2_q, eDictP_q, kDP_q, iDic_q, kDc_q, kV_dt]
  rfl
/-- a day's rows, made by the law -/
theorem row_comp (a0 a1 a2 a3 a4 a5 a6 a8 a9 a10 a11 a13 a16 a17 : Option T) (n : List Nat) (day : Int) (l : List Pl) :
    compD [14, 15] (gTp 2 (gAnd (gNm 14) (gAnd (gNm 15) gEnd))) (cT (eCmp eqQ (eB 14) (eB 12))) (eT (aC (eV 7) (aC (eV 15) aN))) (l.map plD) [a0, a1, a2, a3, a4, a5, a6, some (.p (.str (sg n))), a8, a9, a10, a11, some (.p (.int day)), a13, none, none, a16, a17] =
      some ((l.filter fun p => decide (p.1 = day)).map (fun p => T.p (rwD (n, p.2))), [a0, a1, a2, a3, a4, a5, a6, some (.p (.str (sg n))), a8, a9, a10, a11, some (.p (.int day)), a13, none, none, a16, a17]) := by
  refine comp_evF plD (fun p => decide (p.1 = day)) (fun p => T.p (rwD (n, p.2))) l fun x hx r rest ih => ?_
  obtain ⟨x1, x2⟩ := x
  rw [show plD (x1, x2) = .tup [.int x1, .int x2] from rfl]
  by_cases z : x1 = day
  · simp (disch := omega) only [ih, z, gT_pair, ↓reduceIte, and_self, bindS, mapS, eV_q, kV_p, kV_l, kV_t, eM_q, kM_s, eB_q, kB_s, eC_q, eW_q, kW_p, aN_q, aC_q, kAC_q, kCons_q, aMv_q, kMv_s, kMv2_q, kMv3_s, eL_q, kL_q, eT_q, kT_q, kP_q, kBl_q, kT2_q, eFz_q, kFz_q, eOp_q, kOp1_q, kOp2_q, eCmp_q, kCm1_q, kCm2_q, eNeg_q, kNeg_q, eChain_q, kCh1_q, kCh2_q, kCh3_q, cT_q, kcT_q, cNot_q, kNot_q, cAnd_q, kcAnd_t, kcAnd_f, cOr_q, kcOr_t, kcOr_f, eIf_q, keIf_t, keIf_f, eAnd_q, keAnd_t, keAnd_f, eOr_q, keOr_t, keOr_f, eNot_q, keNot_q, sIf_q, kcIf_t, kcIf_f, eB1_q, kB1_q, eI2_q, kI2_q, eIsi_q, kIsi_q, kLst_q, eList_q, kList_q, kTpl_q, eTuple_q, kTuple_q, eCall_q, kCall_q, kCall2_q, eCallB_q, kCallB_q, kCl_q, allP_n, allP_c, eIx_q, kIx1_q, kIx2_q, oN_q, oS_q, koS_q, eSl_q, kSl1_q, kSl2_q, kSl3_q, cutT_p, cutT_l, sNx_q, sBk_q, sCt_q, sRetN_q, sSeq_q, kSeq_n, kSeq_r, kSeq_b, kSeq_c, sRet_q, kRet_q, sSet_q, kSet_q, sDrop_q, kDrop_q, gNm_q, gEnd_q, gAnd_q, gTp_q, kTp_q, partsT_p, partsT_t, kNx_q, sAsg_q, kAsg_q, sFor_q, kFor_q, loop_n, loop_c, kLp1_q, kLp2_n, kLp2_c, kLp2_b, kLp2_r, iL_q, kiL_q, iTp_q, kiTp_q, iSg_q, kiSg_q, iR1_q, kR1_q, iR2_q, kR2_q, iEn_q, kEn_q, iZp_q, kZp_q, kZp_t, sForV_q, kForV_q, kForV1_q, kForV2_n, kForV2_r, atL_q, kAtL_q, sApp_q, kApp_q, kApp1_q, kApp2_q, sPut_q, kPut_q, kPut1_q, kPut2_q, kPut3_q, kPut4_q, kPutEnd_q, asI_q, sAugIx_q, kAx_q, kAx0_q, kAx1_q, kAx2_q, kAx3_q, kAx4_q, kAx5_q, kAx6_q, kAx7_q, kAx8_q, sAug_q, kAug_q, kAug2_q, kAug3_q, comp_n, comp_c, kCp1_q, kCp2_t, kCp2_f, kCp3_q, kCp4_q, eComp_q, kComp_q, kLs_q, cYes_q, wipe_n, wipe_c, eM1_q, kM11_q, kM12_q, eSplit_q, kSp1_q, kSp2_q, eJoin_q, kJn1_q, kJn2_q, kJn3_q, kJn4_q, eCat_q, kCt0_q, kCt1_q, kCt2_q, kCt3_pl, kCt3_ll, kCt3_lp, kCt3_pp, itemsT_p, itemsT_t, itemsT_ll, isLT_p, isLT_l, eDn_q, eDix_q, kDx1_q, kDx2_q, kDx3_q, kDx4_q, eDget_q, kDg1_q, kDg2_q, kDg3_q, kDg4_q, kDg5_q, eDin_q, kDi1_q, kDi2_q, kDi3_q, kDi4_t, kDi4_f, sPutD_q, kPd1_q, kPd2_q, kPd3_q, kPd4_q, kPd5_q, atD_q, kAtD_q, dicT_p, dicT_o, keyT_i, keyT_s, toD_d, kV_d, sForM_q, kForM_q, loopT_n, loopT_c, kLt1_q, kLt2_n, kLt2_r, eM0_q, kM0_q, iR3_q, runF_q, kRun_r, kRun_n, cutT_s, gStarts, gFind, startE, T.toDs, T.toD, cleanT, tyD, tyOk, List.length_cons, List.length_nil, List.length_map, List.map_cons, List.map_nil, List.replicate, List.cons_append, List.nil_append, List.getElem?_cons_zero, List.getElem?_cons_succ, List.set_cons_zero, List.set_cons_succ, Nat.reduceAdd, Nat.reduceSub, Nat.reduceLT, Nat.reduceLeDiff, Nat.zero_add, gAdd_i, gAdd_g, gSub_i, gAddI_i, gMul_l, gMul_r, gDiv_i, gMod_i, gPow_i, gMulA_g, cLt_i, cLe_i, cGt_i, cGe_i, eqQ_i, neQ_i, eqQ_g, neQ_g, eqQ_ints, neQ_ints, eqQ_b, neQ_b, inQ_g, notInQ_g, gLen_g, gStr_i, gStr_s, gSum_p, gSum_l, gLen_p, gLen_l, toD_l, toDs_p, allP_map, ixT_lst, ixT_pl, ixT_pt, ixT_sg, signsD_g, atI_0, atI_1, atI_2, atI_3, atI_4, atI_5, atI_6, ofS, sg_len, ifLe, ifLt, rng_len, decide_true, decide_false, Bool.false_eq_true, Bool.not_true, Bool.not_false, Int.reduceLT, Int.reduceLE, Int.reduceEq, kit_ii, kit_ib, kit_ll, kit_bb, kit_bi, kit_ss, kit_tt, kit_tl, kit_lt, kit_ls, kit_li, kit_lb, kit_is, kit_si, kit_sb, kit_ti, kit_tb, kit_ts, toKs_pairs, iZpS_q, kZpS_q, iKy, iIts, iVls, List.nil_append, pNm_q, kPN_s, unb_l, unb_d, unb_o, unb_t, unb_p, unb_b, reb_l, reb_d, reb_o, reb_t, reb_p, reb_b, atP_q, kAtP_s, getP_n, getP_c, stepT_k, stepT_ix, stepT_it, stepT_f, putP_q, kPutP_s, setP_n, setP_c, kSP_s, setS_k, setS_ix, setS_it, setS_f, kPF3_q, pFld_q, kPF1_q, kPF2_o, kPF2_b, kPK4_q, pKey_q, kPK0_q, kPK1_q, kPK2_q, kPK3_d, kPK3_b, kPI5_q, kPI4_t, kPI4_l, pIx_q, kPI1_q, kPI2_q, kPI3_l, kPI3_t, eFl_q, kFl_q, valF_o, eDk_q, kDk1_q, kDk2_q, kDk3_q, valK_d, valK_p, sAppP_q, kAp1_q, kAp2_l, kAp2_b, kAp3_q, kAp4_l, kAp4_b, sExtP_q, kEx1_q, kEx2_l, kEx3_q, kEx4_l, sRevP_q, kRv1_q, kRv2_l, sPutP_q, kPp1_q, kPp2_q, kPp3_q, kPp4_q, kPp5_d, kPp5_b, sFldP_q, kFp1_q, kFp2_q, kFp3_o, ePop_q, kPo1_q, kPo2_d, kPo3_q, kPo4_q, kPo5_q, kPo6_d, kPo7_n, kPo7_d, kCM5_q, kCM4_q, kCM3_q, kCM2_q, kCM1_q, eCallM_q, kRM_q, kRM2_r, kRM2_n, runM_q, startM_q, kKl_q, eKeysL_q, kKL_q, keysT_d, kVl_q, eValsL_q, kVL_q, kDC2_q, eDictC_q, kDC_q, kDP3_q, kDP2_q, eDictP_q, kDP_q, iDic_q, kDc_q, kV_dt]
    simp [z, rwD]
  · simp (disch := omega) only [ih, z, gT_pair, ↓reduceIte, and_self, bindS, mapS, eV_q, kV_p, kV_l, kV_t, eM_q, kM_s, eB_q, kB_s, eC_q, eW_q, kW_p, aN_q, aC_q, kAC_q, kCons_q, aMv_q, kMv_s, kMv2_q, kMv3_s, eL_q, kL_q, eT_q, kT_q, kP_q, kBl_q, kT2_q, eFz_q, kFz_q, eOp_q, kOp1_q, kOp2_q, eCmp_q, kCm1_q, kCm2_q, eNeg_q, kNeg_q, eChain_q, kCh1_q, kCh2_q, kCh3_q, cT_q, kcT_q, cNot_q, kNot_q, cAnd_q, kcAnd_t, kcAnd_f, cOr_q, kcOr_t, kcOr_f, eIf_q, keIf_t, keIf_f, eAnd_q, keAnd_t, keAnd_f, eOr_q, keOr_t, keOr_f, eNot_q, keNot_q, sIf_q, kcIf_t, kcIf_f, eB1_q, kB1_q, eI2_q, kI2_q, eIsi_q, kIsi_q, kLst_q, eList_q, kList_q, kTpl_q, eTuple_q, kTuple_q, eCall_q, kCall_q, kCall2_q, eCallB_q, kCallB_q, kCl_q, allP_n, allP_c, eIx_q, kIx1_q, kIx2_q, oN_q, oS_q, koS_q, eSl_q, kSl1_q, kSl2_q, kSl3_q, cutT_p, cutT_l, sNx_q, sBk_q, sCt_q, sRetN_q, sSeq_q, kSeq_n, kSeq_r, kSeq_b, kSeq_c, sRet_q, kRet_q, sSet_q, kSet_q, sDrop_q, kDrop_q, gNm_q, gEnd_q, gAnd_q, gTp_q, kTp_q, partsT_p, partsT_t, kNx_q, sAsg_q, kAsg_q, sFor_q, kFor_q, loop_n, loop_c, kLp1_q, kLp2_n, kLp2_c, kLp2_b, kLp2_r, iL_q, kiL_q, iTp_q, kiTp_q, iSg_q, kiSg_q, iR1_q, kR1_q, iR2_q, kR2_q, iEn_q, kEn_q, iZp_q, kZp_q, kZp_t, sForV_q, kForV_q, kForV1_q, kForV2_n, kForV2_r, atL_q, kAtL_q, sApp_q, kApp_q, kApp1_q, kApp2_q, sPut_q, kPut_q, kPut1_q, kPut2_q, kPut3_q, kPut4_q, kPutEnd_q, asI_q, sAugIx_q, kAx_q, kAx0_q, kAx1_q, kAx2_q, kAx3_q, kAx4_q, kAx5_q, kAx6_q, kAx7_q, kAx8_q, sAug_q, kAug_q, kAug2_q, kAug3_q, comp_n, comp_c, kCp1_q, kCp2_t, kCp2_f, kCp3_q, kCp4_q, eComp_q, kComp_q, kLs_q, cYes_q, wipe_n, wipe_c, eM1_q, kM11_q, kM12_q, eSplit_q, kSp1_q, kSp2_q, eJoin_q, kJn1_q, kJn2_q, kJn3_q, kJn4_q, eCat_q, kCt0_q, kCt1_q, kCt2_q, kCt3_pl, kCt3_ll, kCt3_lp, kCt3_pp, itemsT_p, itemsT_t, itemsT_ll, isLT_p, isLT_l, eDn_q, eDix_q, kDx1_q, kDx2_q, kDx3_q, kDx4_q, eDget_q, kDg1_q, kDg2_q, kDg3_q, kDg4_q, kDg5_q, eDin_q, kDi1_q, kDi2_q, kDi3_q, kDi4_t, kDi4_f, sPutD_q, kPd1_q, kPd2_q, kPd3_q, kPd4_q, kPd5_q, atD_q, kAtD_q, dicT_p, dicT_o, keyT_i, keyT_s, toD_d, kV_d, sForM_q, kForM_q, loopT_n, loopT_c, kLt1_q, kLt2_n, kLt2_r, eM0_q, kM0_q, iR3_q, runF_q, kRun_r, kRun_n, cutT_s, gStarts, gFind, startE, T.toDs, T.toD, cleanT, tyD, tyOk, List.length_cons, List.length_nil, List.length_map, List.map_cons, List.map_nil, List.replicate, List.cons_append, List.nil_append, List.getElem?_cons_zero, List.getElem?_cons_succ, List.set_cons_zero, List.set_cons_succ, Nat.reduceAdd, Nat.reduceSub, Nat.reduceLT, Nat.reduceLeDiff, Nat.zero_add, gAdd_i, gAdd_g, gSub_i, gAddI_i, gMul_l, gMul_r, gDiv_i, gMod_i, gPow_i, gMulA_g, cLt_i, cLe_i, cGt_i, cGe_i, eqQ_i, neQ_i, eqQ_g, neQ_g, eqQ_ints, neQ_ints, eqQ_b, neQ_b, inQ_g, notInQ_g, gLen_g, gStr_i, gStr_s, gSum_p, gSum_l, gLen_p, gLen_l, toD_l, toDs_p, allP_map, ixT_lst, ixT_pl, ixT_pt, ixT_sg, signsD_g, atI_0, atI_1, atI_2, atI_3, atI_4, atI_5, atI_6, ofS, sg_len, ifLe, ifLt, rng_len, decide_true, decide_false, Bool.false_eq_true, Bool.not_true, Bool.not_false, Int.reduceLT, Int.reduceLE, Int.reduceEq, kit_ii, kit_ib, kit_ll, kit_bb, kit_bi, kit_ss, kit_tt, kit_tl, kit_lt, kit_ls, kit_li, kit_lb, kit_is, kit_si, kit_sb, kit_ti, kit_tb, kit_ts, toKs_pairs, iZpS_q, kZpS_q, iKy, iIts, iVls, List.nil_append, pNm_q, kPN_s, unb_l, unb_d, unb_o, unb_t, unb_p, unb_b, reb_l, reb_d, reb_o, reb_t, reb_p, reb_b, atP_q, kAtP_s, getP_n, getP_c, stepT_k, stepT_ix, stepT_it, stepT_f, putP_q, kPutP_s, setP_n, setP_c, kSP_s, setS_k, setS_ix, setS_it, setS_f, kPF3_q, pFld_q, kPF1_q, kPF2_o, kPF2_b, kPK4_q, pKey_q, kPK0_q, kPK1_q, kPK2_q, kPK3_d, kPK3_b, kPI5_q, kPI4_t, kPI4_l, pIx_q, kPI1_q, kPI2_q, kPI3_l, kPI3_t, eFl_q, kFl_q, valF_o, eDk_q, kDk1_q, kDk2_q, kDk3_q, valK_d, valK_p, sAppP_q, kAp1_q, kAp2_l, kAp2_b, kAp3_q, kAp4_l, kAp4_b, sExtP_q, kEx1_q, kEx2_l, kEx3_q, kEx4_l, sRevP_q, kRv1_q, kRv2_l, sPutP_q, kPp1_q, kPp2_q, kPp3_q, kPp4_q, kPp5_d, kPp5_b, sFldP_q, kFp1_q, kFp2_q, kFp3_o, ePop_q, kPo1_q, kPo2_d, kPo3_q, kPo4_q, kPo5_q, kPo6_d, kPo7_n, kPo7_d, kCM5_q, kCM4_q, kCM3_q, kCM2_q, kCM1_q, eCallM_q, kRM_q, kRM2_r, kRM2_n, runM_q, startM_q, kKl_q, eKeysL_q, kKL_q, keysT_d, kVl_q, eValsL_q, kVL_q, kDC2_q, eDictC_q, kDC_q, kDP3_q, kDP2_q, eDictP_q, kDP_q, iDic_q, kDc_q, kV_dt]
theorem paid_loop (a0 a1 a2 a3 a4 a5 a6 a10 a11 a15 a16 a17 : Option T) (day : Int) (bs : List Debt) (h : ∀ b ∈ bs, PlOk b.2.2) (hl : bs.length ≤ 1000) (a7 a8 a9 : Option T) :
    ∃ b7 b8 b9, loopD (gTp 3 (gAnd (gNm 7) (gAnd (gNm 8) (gAnd (gNm 9) gEnd)))) B_law_1 (bs.map debtD) [a0, a1, a2, a3, a4, a5, a6, a7, a8, a9, a10, a11, some (.p (.int day)), some (.lst []), none, none, a16, a17] =
      some (.nx, [a0, a1, a2, a3, a4, a5, a6, b7, b8, b9, a10, a11, some (.p (.int day)), some (.lst (((paidL (bs.map toPn) day).map rwD).map T.p)), none, none, a16, a17]) := by
  obtain ⟨e, h1, b7, b8, b9, he⟩ := loop_img0 (G := gTp 3 (gAnd (gNm 7) (gAnd (gNm 8) (gAnd (gNm 9) gEnd)))) (F := B_law_1) debtD (fun done e => ∃ b7 b8 b9, e = [a0, a1, a2, a3, a4, a5, a6, b7, b8, b9, a10, a11, some (.p (.int day)), some (.lst (((paidL (done.map toPn) day).map rwD).map T.p)), none, none, a16, a17]) bs
    (env := [a0, a1, a2, a3, a4, a5, a6, a7, a8, a9, a10, a11, some (.p (.int day)), some (.lst []), none, none, a16, a17]) ⟨a7, a8, a9, rfl⟩ (by
    rintro pre x post e hp ⟨b7, b8, b9, rfl⟩
    have hxo := h x (by rw [hp]; simp)
    have hc := row_comp a0 a1 a2 a3 a4 a5 a6 (some (.p (.str (sg x.2.1)))) (some (.p (.lst (x.2.2.map plD)))) a10 a11 (some (.lst (((paidL (pre.map toPn) day).map rwD).map T.p))) a16 a17 x.1 day x.2.2
    have hl1 : (x.2.2.map plD).length ≤ 1000000 := by have := hxo.2.2; simp; omega
    have hl2 : (paidL (pre.map toPn) day).length ≤ 1000 := by
      have := LP.paid_len day (pre.map toPn) fun y hy => by
        obtain ⟨b, hb, rfl⟩ := List.mem_map.mp hy
        have := h b (by rw [hp]; simp [hb])
        exact ⟨this.1, fun p hp => (this.2.1 p hp).2.1⟩
      have h2 := congrArg List.length hp
      simp at h2 this; omega
    have hl3 : (x.2.2.filter fun p => decide (p.1 = day)).length ≤ 12 := Nat.le_trans (List.length_filter_le _ _) hxo.2.2
    have hl4 : (((paidL (pre.map toPn) day).map rwD).map T.p).length + ((x.2.2.filter fun p => decide (p.1 = day)).map (fun p => T.p (rwD (x.1, p.2)))).length < 16000000 := by simp only [List.length_map]; omega
    have app : paidL ((pre ++ [x]).map toPn) day = paidL (pre.map toPn) day ++ (x.2.2.filter fun p => decide (p.1 = day)).map fun p => (x.1, p.2) := by
      rw [List.map_append]; exact LP.paid_app _ _ _
    obtain ⟨x1, x2, x3⟩ := x
    refine ⟨[a0, a1, a2, a3, a4, a5, a6, some (.p (.str (sg x1))), some (.p (.str (sg x2))), some (.p (.lst (x3.map plD))), a10, a11, some (.p (.int day)), some (.lst (((paidL ((pre ++ [(x1, x2, x3)]).map toPn) day).map rwD).map T.p)), none, none, a16, a17], .inl ?_, _, _, _, rfl⟩
    rw [app]
    rw [show debtD (x1, x2, x3) = .tup [.str (sg x1), .str (sg x2), .lst (x3.map plD)] from rfl]
    simp (disch := omega) only [B_law_1, hc, hl1, hl4, ↓reduceIte, and_self, bindS, mapS, eV_q, kV_p, kV_l, kV_t, eM_q, kM_s, eB_q, kB_s, eC_q, eW_q, kW_p, aN_q, aC_q, kAC_q, kCons_q, aMv_q, kMv_s, kMv2_q, kMv3_s, eL_q, kL_q, eT_q, kT_q, kP_q, kBl_q, kT2_q, eFz_q, kFz_q, eOp_q, kOp1_q, kOp2_q, eCmp_q, kCm1_q, kCm2_q, eNeg_q, kNeg_q, eChain_q, kCh1_q, kCh2_q, kCh3_q, cT_q, kcT_q, cNot_q, kNot_q, cAnd_q, kcAnd_t, kcAnd_f, cOr_q, kcOr_t, kcOr_f, eIf_q, keIf_t, keIf_f, eAnd_q, keAnd_t, keAnd_f, eOr_q, keOr_t, keOr_f, eNot_q, keNot_q, sIf_q, kcIf_t, kcIf_f, eB1_q, kB1_q, eI2_q, kI2_q, eIsi_q, kIsi_q, kLst_q, eList_q, kList_q, kTpl_q, eTuple_q, kTuple_q, eCall_q, kCall_q, kCall2_q, eCallB_q, kCallB_q, kCl_q, allP_n, allP_c, eIx_q, kIx1_q, kIx2_q, oN_q, oS_q, koS_q, eSl_q, kSl1_q, kSl2_q, kSl3_q, cutT_p, cutT_l, sNx_q, sBk_q, sCt_q, sRetN_q, sSeq_q, kSeq_n, kSeq_r, kSeq_b, kSeq_c, sRet_q, kRet_q, sSet_q, kSet_q, sDrop_q, kDrop_q, gNm_q, gEnd_q, gAnd_q, gTp_q, kTp_q, partsT_p, partsT_t, kNx_q, sAsg_q, kAsg_q, sFor_q, kFor_q, loop_n, loop_c, kLp1_q, kLp2_n, kLp2_c, kLp2_b, kLp2_r, iL_q, kiL_q, iTp_q, kiTp_q, iSg_q, kiSg_q, iR1_q, kR1_q, iR2_q, kR2_q, iEn_q, kEn_q, iZp_q, kZp_q, kZp_t, sForV_q, kForV_q, kForV1_q, kForV2_n, kForV2_r, atL_q, kAtL_q, sApp_q, kApp_q, kApp1_q, kApp2_q, sPut_q, kPut_q, kPut1_q, kPut2_q, kPut3_q, kPut4_q, kPutEnd_q, asI_q, sAugIx_q, kAx_q, kAx0_q, kAx1_q, kAx2_q, kAx3_q, kAx4_q, kAx5_q, kAx6_q, kAx7_q, kAx8_q, sAug_q, kAug_q, kAug2_q, kAug3_q, comp_n, comp_c, kCp1_q, kCp2_t, kCp2_f, kCp3_q, kCp4_q, eComp_q, kComp_q, kLs_q, cYes_q, wipe_n, wipe_c, eM1_q, kM11_q, kM12_q, eSplit_q, kSp1_q, kSp2_q, eJoin_q, kJn1_q, kJn2_q, kJn3_q, kJn4_q, eCat_q, kCt0_q, kCt1_q, kCt2_q, kCt3_pl, kCt3_ll, kCt3_lp, kCt3_pp, itemsT_p, itemsT_t, itemsT_ll, isLT_p, isLT_l, eDn_q, eDix_q, kDx1_q, kDx2_q, kDx3_q, kDx4_q, eDget_q, kDg1_q, kDg2_q, kDg3_q, kDg4_q, kDg5_q, eDin_q, kDi1_q, kDi2_q, kDi3_q, kDi4_t, kDi4_f, sPutD_q, kPd1_q, kPd2_q, kPd3_q, kPd4_q, kPd5_q, atD_q, kAtD_q, dicT_p, dicT_o, keyT_i, keyT_s, toD_d, kV_d, sForM_q, kForM_q, loopT_n, loopT_c, kLt1_q, kLt2_n, kLt2_r, eM0_q, kM0_q, iR3_q, runF_q, kRun_r, kRun_n, cutT_s, gStarts, gFind, startE, T.toDs, T.toD, cleanT, tyD, tyOk, List.length_cons, List.length_nil, List.map_cons, List.map_nil, List.replicate, List.cons_append, List.nil_append, List.getElem?_cons_zero, List.getElem?_cons_succ, List.set_cons_zero, List.set_cons_succ, Nat.reduceAdd, Nat.reduceSub, Nat.reduceLT, Nat.reduceLeDiff, Nat.zero_add, gAdd_i, gAdd_g, gSub_i, gAddI_i, gMul_l, gMul_r, gDiv_i, gMod_i, gPow_i, gMulA_g, cLt_i, cLe_i, cGt_i, cGe_i, eqQ_i, neQ_i, eqQ_g, neQ_g, eqQ_ints, neQ_ints, eqQ_b, neQ_b, inQ_g, notInQ_g, gLen_g, gStr_i, gStr_s, gSum_p, gSum_l, gLen_p, gLen_l, toD_l, toDs_p, allP_map, ixT_lst, ixT_pl, ixT_pt, ixT_sg, signsD_g, atI_0, atI_1, atI_2, atI_3, atI_4, atI_5, atI_6, ofS, sg_len, ifLe, ifLt, rng_len, decide_true, decide_false, Bool.false_eq_true, Bool.not_true, Bool.not_false, Int.reduceLT, Int.reduceLE, Int.reduceEq, kit_ii, kit_ib, kit_ll, kit_bb, kit_bi, kit_ss, kit_tt, kit_tl, kit_lt, kit_ls, kit_li, kit_lb, kit_is, kit_si, kit_sb, kit_ti, kit_tb, kit_ts, toKs_pairs, iZpS_q, kZpS_q, iKy, iIts, iVls, List.nil_append, pNm_q, kPN_s, unb_l, unb_d, unb_o, unb_t, unb_p, unb_b, reb_l, reb_d, reb_o, reb_t, reb_p, reb_b, atP_q, kAtP_s, getP_n, getP_c, stepT_k, stepT_ix, stepT_it, stepT_f, putP_q, kPutP_s, setP_n, setP_c, kSP_s, setS_k, setS_ix, setS_it, setS_f, kPF3_q, pFld_q, kPF1_q, kPF2_o, kPF2_b, kPK4_q, pKey_q, kPK0_q, kPK1_q, kPK2_q, kPK3_d, kPK3_b, kPI5_q, kPI4_t, kPI4_l, pIx_q, kPI1_q, kPI2_q, kPI3_l, kPI3_t, eFl_q, kFl_q, valF_o, eDk_q, kDk1_q, kDk2_q, kDk3_q, valK_d, valK_p, sAppP_q, kAp1_q, kAp2_l, kAp2_b, kAp3_q, kAp4_l, kAp4_b, sExtP_q, kEx1_q, kEx2_l, kEx3_q, kEx4_l, sRevP_q, kRv1_q, kRv2_l, sPutP_q, kPp1_q, kPp2_q, kPp3_q, kPp4_q, kPp5_d, kPp5_b, sFldP_q, kFp1_q, kFp2_q, kFp3_o, ePop_q, kPo1_q, kPo2_d, kPo3_q, kPo4_q, kPo5_q, kPo6_d, kPo7_n, kPo7_d, kCM5_q, kCM4_q, kCM3_q, kCM2_q, kCM1_q, eCallM_q, kRM_q, kRM2_r, kRM2_n, runM_q, startM_q, kKl_q, eKeysL_q, kKL_q, keysT_d, kVl_q, eValsL_q, kVL_q, kDC2_q, eDictC_q, kDC_q, kDP3_q, kDP2_q, eDictP_q, kDP_q, iDic_q, kDc_q, kV_dt]
    simp [List.map_map, Function.comp_def])
  subst he
  exact ⟨b7, b8, b9, h1⟩
def dayD (rs : List Rw) : D := .tup [.lst (rs.map rwD), .lst []]
def daysD (bs : List Debt) (n : Nat) : List D := (List.range n).map fun (k : Nat) => dayD (paidL (bs.map toPn) (1 + (k : Int)))
theorem days_loop (a0 a1 a2 a4 a5 a6 a10 a16 a17 : Option T) (bs : List Debt) (h : ∀ b ∈ bs, PlOk b.2.2) (hl : bs.length ≤ 1000) (n : Nat) (hn : n ≤ 1000) (a7 a8 a9 : Option T) :
    ∃ b7 b8 b9 b12 b13, loopD (gNm 12) B_law_2 (rngD 1 n) [a0, a1, a2, some (.p (.lst (bs.map debtD))), a4, a5, a6, a7, a8, a9, a10, some (.lst []), none, none, none, none, a16, a17] =
      some (.nx, [a0, a1, a2, some (.p (.lst (bs.map debtD))), a4, a5, a6, b7, b8, b9, a10, some (.lst ((daysD bs n).map T.p)), b12, b13, none, none, a16, a17]) := by
  obtain ⟨e, h1, b7, b8, b9, b12, b13, he⟩ := loop_rng (G := gNm 12) (F := B_law_2) (fun k e => ∃ b7 b8 b9 b12 b13, e = [a0, a1, a2, some (.p (.lst (bs.map debtD))), a4, a5, a6, b7, b8, b9, a10, some (.lst ((daysD bs k).map T.p)), b12, b13, none, none, a16, a17]) 1 n 0 
    [a0, a1, a2, some (.p (.lst (bs.map debtD))), a4, a5, a6, a7, a8, a9, a10, some (.lst []), none, none, none, none, a16, a17] ⟨a7, a8, a9, none, none, rfl⟩ (by
    rintro i e _ hi ⟨b7, b8, b9, b12, b13, rfl⟩
    obtain ⟨c7, c8, c9, hp⟩ := paid_loop a0 a1 a2 (some (.p (.lst (bs.map debtD)))) a4 a5 a6 a10 (some (.lst ((daysD bs i).map T.p))) none a16 a17 (1 + (i : Int)) bs h hl b7 b8 b9
    have hdl : (daysD bs i).length < 16000000 := by unfold daysD; rw [List.length_map, List.length_range]; omega
    refine ⟨[a0, a1, a2, some (.p (.lst (bs.map debtD))), a4, a5, a6, c7, c8, c9, a10, some (.lst ((daysD bs (i + 1)).map T.p)), some (.p (.int (1 + (i : Int)))), some (.p (.lst ((paidL (bs.map toPn) (1 + (i : Int))).map rwD))), none, none, a16, a17], .inl ?_, c7, c8, c9, _, _, rfl⟩
    simp (disch := omega) only [B_law_2, hp, hdl, mkTup, ↓reduceIte, and_self, bindS, mapS, eV_q, kV_p, kV_l, kV_t, eM_q, kM_s, eB_q, kB_s, eC_q, eW_q, kW_p, aN_q, aC_q, kAC_q, kCons_q, aMv_q, kMv_s, kMv2_q, kMv3_s, eL_q, kL_q, eT_q, kT_q, kP_q, kBl_q, kT2_q, eFz_q, kFz_q, eOp_q, kOp1_q, kOp2_q, eCmp_q, kCm1_q, kCm2_q, eNeg_q, kNeg_q, eChain_q, kCh1_q, kCh2_q, kCh3_q, cT_q, kcT_q, cNot_q, kNot_q, cAnd_q, kcAnd_t, kcAnd_f, cOr_q, kcOr_t, kcOr_f, eIf_q, keIf_t, keIf_f, eAnd_q, keAnd_t, keAnd_f, eOr_q, keOr_t, keOr_f, eNot_q, keNot_q, sIf_q, kcIf_t, kcIf_f, eB1_q, kB1_q, eI2_q, kI2_q, eIsi_q, kIsi_q, kLst_q, eList_q, kList_q, kTpl_q, eTuple_q, kTuple_q, eCall_q, kCall_q, kCall2_q, eCallB_q, kCallB_q, kCl_q, allP_n, allP_c, eIx_q, kIx1_q, kIx2_q, oN_q, oS_q, koS_q, eSl_q, kSl1_q, kSl2_q, kSl3_q, cutT_p, cutT_l, sNx_q, sBk_q, sCt_q, sRetN_q, sSeq_q, kSeq_n, kSeq_r, kSeq_b, kSeq_c, sRet_q, kRet_q, sSet_q, kSet_q, sDrop_q, kDrop_q, gNm_q, gEnd_q, gAnd_q, gTp_q, kTp_q, partsT_p, partsT_t, kNx_q, sAsg_q, kAsg_q, sFor_q, kFor_q, loop_n, loop_c, kLp1_q, kLp2_n, kLp2_c, kLp2_b, kLp2_r, iL_q, kiL_q, iTp_q, kiTp_q, iSg_q, kiSg_q, iR1_q, kR1_q, iR2_q, kR2_q, iEn_q, kEn_q, iZp_q, kZp_q, kZp_t, sForV_q, kForV_q, kForV1_q, kForV2_n, kForV2_r, atL_q, kAtL_q, sApp_q, kApp_q, kApp1_q, kApp2_q, sPut_q, kPut_q, kPut1_q, kPut2_q, kPut3_q, kPut4_q, kPutEnd_q, asI_q, sAugIx_q, kAx_q, kAx0_q, kAx1_q, kAx2_q, kAx3_q, kAx4_q, kAx5_q, kAx6_q, kAx7_q, kAx8_q, sAug_q, kAug_q, kAug2_q, kAug3_q, comp_n, comp_c, kCp1_q, kCp2_t, kCp2_f, kCp3_q, kCp4_q, eComp_q, kComp_q, kLs_q, cYes_q, wipe_n, wipe_c, eM1_q, kM11_q, kM12_q, eSplit_q, kSp1_q, kSp2_q, eJoin_q, kJn1_q, kJn2_q, kJn3_q, kJn4_q, eCat_q, kCt0_q, kCt1_q, kCt2_q, kCt3_pl, kCt3_ll, kCt3_lp, kCt3_pp, itemsT_p, itemsT_t, itemsT_ll, isLT_p, isLT_l, eDn_q, eDix_q, kDx1_q, kDx2_q, kDx3_q, kDx4_q, eDget_q, kDg1_q, kDg2_q, kDg3_q, kDg4_q, kDg5_q, eDin_q, kDi1_q, kDi2_q, kDi3_q, kDi4_t, kDi4_f, sPutD_q, kPd1_q, kPd2_q, kPd3_q, kPd4_q, kPd5_q, atD_q, kAtD_q, dicT_p, dicT_o, keyT_i, keyT_s, toD_d, kV_d, sForM_q, kForM_q, loopT_n, loopT_c, kLt1_q, kLt2_n, kLt2_r, eM0_q, kM0_q, iR3_q, runF_q, kRun_r, kRun_n, cutT_s, gStarts, gFind, startE, T.toDs, T.toD, cleanT, tyD, tyOk, List.length_cons, List.length_nil, List.length_map, List.map_cons, List.map_nil, List.replicate, List.cons_append, List.nil_append, List.getElem?_cons_zero, List.getElem?_cons_succ, List.set_cons_zero, List.set_cons_succ, Nat.reduceAdd, Nat.reduceSub, Nat.reduceLT, Nat.reduceLeDiff, Nat.zero_add, gAdd_i, gAdd_g, gSub_i, gAddI_i, gMul_l, gMul_r, gDiv_i, gMod_i, gPow_i, gMulA_g, cLt_i, cLe_i, cGt_i, cGe_i, eqQ_i, neQ_i, eqQ_g, neQ_g, eqQ_ints, neQ_ints, eqQ_b, neQ_b, inQ_g, notInQ_g, gLen_g, gStr_i, gStr_s, gSum_p, gSum_l, gLen_p, gLen_l, toD_l, toDs_p, allP_map, ixT_lst, ixT_pl, ixT_pt, ixT_sg, signsD_g, atI_0, atI_1, atI_2, atI_3, atI_4, atI_5, atI_6, ofS, sg_len, ifLe, ifLt, rng_len, decide_true, decide_false, Bool.false_eq_true, Bool.not_true, Bool.not_false, Int.reduceLT, Int.reduceLE, Int.reduceEq, kit_ii, kit_ib, kit_ll, kit_bb, kit_bi, kit_ss, kit_tt, kit_tl, kit_lt, kit_ls, kit_li, kit_lb, kit_is, kit_si, kit_sb, kit_ti, kit_tb, kit_ts, toKs_pairs, iZpS_q, kZpS_q, iKy, iIts, iVls, List.nil_append, pNm_q, kPN_s, unb_l, unb_d, unb_o, unb_t, unb_p, unb_b, reb_l, reb_d, reb_o, reb_t, reb_p, reb_b, atP_q, kAtP_s, getP_n, getP_c, stepT_k, stepT_ix, stepT_it, stepT_f, putP_q, kPutP_s, setP_n, setP_c, kSP_s, setS_k, setS_ix, setS_it, setS_f, kPF3_q, pFld_q, kPF1_q, kPF2_o, kPF2_b, kPK4_q, pKey_q, kPK0_q, kPK1_q, kPK2_q, kPK3_d, kPK3_b, kPI5_q, kPI4_t, kPI4_l, pIx_q, kPI1_q, kPI2_q, kPI3_l, kPI3_t, eFl_q, kFl_q, valF_o, eDk_q, kDk1_q, kDk2_q, kDk3_q, valK_d, valK_p, sAppP_q, kAp1_q, kAp2_l, kAp2_b, kAp3_q, kAp4_l, kAp4_b, sExtP_q, kEx1_q, kEx2_l, kEx3_q, kEx4_l, sRevP_q, kRv1_q, kRv2_l, sPutP_q, kPp1_q, kPp2_q, kPp3_q, kPp4_q, kPp5_d, kPp5_b, sFldP_q, kFp1_q, kFp2_q, kFp3_o, ePop_q, kPo1_q, kPo2_d, kPo3_q, kPo4_q, kPo5_q, kPo6_d, kPo7_n, kPo7_d, kCM5_q, kCM4_q, kCM3_q, kCM2_q, kCM1_q, eCallM_q, kRM_q, kRM2_r, kRM2_n, runM_q, startM_q, kKl_q, eKeysL_q, kKL_q, keysT_d, kVl_q, eValsL_q, kVL_q, kDC2_q, eDictC_q, kDC_q, kDP3_q, kDP2_q, eDictP_q, kDP_q, iDic_q, kDc_q, kV_dt]
    simp [daysD, List.range_succ, dayD, T.toD, T.toDs]
    rfl)
  subst he
  refine ⟨b7, b8, b9, b12, b13, ?_⟩
  rw [Nat.zero_add] at h1
  exact h1
/-- what is left, by the law -/
def restP (many : Int) (b : Debt) : Pn := (b.1, b.2.2.filter fun p => decide (many < p.1))
theorem sum_comp (a0 a1 a2 a3 a4 a6 a7 a8 a9 a10 a11 a12 a13 a14 a15 a16 : Option T) (many : Int) (l : List Pl) :
    compD [17] (gNm 17) (cT (eCmp cGt (eIx (eB 17) (eC (.int 0))) (eB 5))) (eW (eIx (eB 17) (eC (.int 1)))) (l.map plD) [a0, a1, a2, a3, a4, some (.p (.int many)), a6, a7, a8, a9, a10, a11, a12, a13, a14, a15, a16, none] =
      some ((l.filter fun p => decide (many < p.1)).map (fun p => T.p (.int p.2)), [a0, a1, a2, a3, a4, some (.p (.int many)), a6, a7, a8, a9, a10, a11, a12, a13, a14, a15, a16, none]) := by
  refine comp_evF plD (fun p => decide (many < p.1)) (fun p => T.p (.int p.2)) l fun x hx r rest ih => ?_
  obtain ⟨x1, x2⟩ := x
  rw [show plD (x1, x2) = .tup [.int x1, .int x2] from rfl]
  by_cases z : many < x1
  · simp (disch := omega) only [ih, z, ↓reduceIte, and_self, bindS, mapS, eV_q, kV_p, kV_l, kV_t, eM_q, kM_s, eB_q, kB_s, eC_q, eW_q, kW_p, aN_q, aC_q, kAC_q, kCons_q, aMv_q, kMv_s, kMv2_q, kMv3_s, eL_q, kL_q, eT_q, kT_q, kP_q, kBl_q, kT2_q, eFz_q, kFz_q, eOp_q, kOp1_q, kOp2_q, eCmp_q, kCm1_q, kCm2_q, eNeg_q, kNeg_q, eChain_q, kCh1_q, kCh2_q, kCh3_q, cT_q, kcT_q, cNot_q, kNot_q, cAnd_q, kcAnd_t, kcAnd_f, cOr_q, kcOr_t, kcOr_f, eIf_q, keIf_t, keIf_f, eAnd_q, keAnd_t, keAnd_f, eOr_q, keOr_t, keOr_f, eNot_q, keNot_q, sIf_q, kcIf_t, kcIf_f, eB1_q, kB1_q, eI2_q, kI2_q, eIsi_q, kIsi_q, kLst_q, eList_q, kList_q, kTpl_q, eTuple_q, kTuple_q, eCall_q, kCall_q, kCall2_q, eCallB_q, kCallB_q, kCl_q, allP_n, allP_c, eIx_q, kIx1_q, kIx2_q, oN_q, oS_q, koS_q, eSl_q, kSl1_q, kSl2_q, kSl3_q, cutT_p, cutT_l, sNx_q, sBk_q, sCt_q, sRetN_q, sSeq_q, kSeq_n, kSeq_r, kSeq_b, kSeq_c, sRet_q, kRet_q, sSet_q, kSet_q, sDrop_q, kDrop_q, gNm_q, gEnd_q, gAnd_q, gTp_q, kTp_q, partsT_p, partsT_t, kNx_q, sAsg_q, kAsg_q, sFor_q, kFor_q, loop_n, loop_c, kLp1_q, kLp2_n, kLp2_c, kLp2_b, kLp2_r, iL_q, kiL_q, iTp_q, kiTp_q, iSg_q, kiSg_q, iR1_q, kR1_q, iR2_q, kR2_q, iEn_q, kEn_q, iZp_q, kZp_q, kZp_t, sForV_q, kForV_q, kForV1_q, kForV2_n, kForV2_r, atL_q, kAtL_q, sApp_q, kApp_q, kApp1_q, kApp2_q, sPut_q, kPut_q, kPut1_q, kPut2_q, kPut3_q, kPut4_q, kPutEnd_q, asI_q, sAugIx_q, kAx_q, kAx0_q, kAx1_q, kAx2_q, kAx3_q, kAx4_q, kAx5_q, kAx6_q, kAx7_q, kAx8_q, sAug_q, kAug_q, kAug2_q, kAug3_q, comp_n, comp_c, kCp1_q, kCp2_t, kCp2_f, kCp3_q, kCp4_q, eComp_q, kComp_q, kLs_q, cYes_q, wipe_n, wipe_c, eM1_q, kM11_q, kM12_q, eSplit_q, kSp1_q, kSp2_q, eJoin_q, kJn1_q, kJn2_q, kJn3_q, kJn4_q, eCat_q, kCt0_q, kCt1_q, kCt2_q, kCt3_pl, kCt3_ll, kCt3_lp, kCt3_pp, itemsT_p, itemsT_t, itemsT_ll, isLT_p, isLT_l, eDn_q, eDix_q, kDx1_q, kDx2_q, kDx3_q, kDx4_q, eDget_q, kDg1_q, kDg2_q, kDg3_q, kDg4_q, kDg5_q, eDin_q, kDi1_q, kDi2_q, kDi3_q, kDi4_t, kDi4_f, sPutD_q, kPd1_q, kPd2_q, kPd3_q, kPd4_q, kPd5_q, atD_q, kAtD_q, dicT_p, dicT_o, keyT_i, keyT_s, toD_d, kV_d, sForM_q, kForM_q, loopT_n, loopT_c, kLt1_q, kLt2_n, kLt2_r, eM0_q, kM0_q, iR3_q, runF_q, kRun_r, kRun_n, cutT_s, gStarts, gFind, startE, T.toDs, T.toD, cleanT, tyD, tyOk, List.length_cons, List.length_nil, List.length_map, List.map_cons, List.map_nil, List.replicate, List.cons_append, List.nil_append, List.getElem?_cons_zero, List.getElem?_cons_succ, List.set_cons_zero, List.set_cons_succ, Nat.reduceAdd, Nat.reduceSub, Nat.reduceLT, Nat.reduceLeDiff, Nat.zero_add, gAdd_i, gAdd_g, gSub_i, gAddI_i, gMul_l, gMul_r, gDiv_i, gMod_i, gPow_i, gMulA_g, cLt_i, cLe_i, cGt_i, cGe_i, eqQ_i, neQ_i, eqQ_g, neQ_g, eqQ_ints, neQ_ints, eqQ_b, neQ_b, inQ_g, notInQ_g, gLen_g, gStr_i, gStr_s, gSum_p, gSum_l, gLen_p, gLen_l, toD_l, toDs_p, allP_map, ixT_lst, ixT_pl, ixT_pt, ixT_sg, signsD_g, atI_0, atI_1, atI_2, atI_3, atI_4, atI_5, atI_6, ofS, sg_len, ifLe, ifLt, rng_len, decide_true, decide_false, Bool.false_eq_true, Bool.not_true, Bool.not_false, Int.reduceLT, Int.reduceLE, Int.reduceEq, kit_ii, kit_ib, kit_ll, kit_bb, kit_bi, kit_ss, kit_tt, kit_tl, kit_lt, kit_ls, kit_li, kit_lb, kit_is, kit_si, kit_sb, kit_ti, kit_tb, kit_ts, toKs_pairs, iZpS_q, kZpS_q, iKy, iIts, iVls, List.nil_append, pNm_q, kPN_s, unb_l, unb_d, unb_o, unb_t, unb_p, unb_b, reb_l, reb_d, reb_o, reb_t, reb_p, reb_b, atP_q, kAtP_s, getP_n, getP_c, stepT_k, stepT_ix, stepT_it, stepT_f, putP_q, kPutP_s, setP_n, setP_c, kSP_s, setS_k, setS_ix, setS_it, setS_f, kPF3_q, pFld_q, kPF1_q, kPF2_o, kPF2_b, kPK4_q, pKey_q, kPK0_q, kPK1_q, kPK2_q, kPK3_d, kPK3_b, kPI5_q, kPI4_t, kPI4_l, pIx_q, kPI1_q, kPI2_q, kPI3_l, kPI3_t, eFl_q, kFl_q, valF_o, eDk_q, kDk1_q, kDk2_q, kDk3_q, valK_d, valK_p, sAppP_q, kAp1_q, kAp2_l, kAp2_b, kAp3_q, kAp4_l, kAp4_b, sExtP_q, kEx1_q, kEx2_l, kEx3_q, kEx4_l, sRevP_q, kRv1_q, kRv2_l, sPutP_q, kPp1_q, kPp2_q, kPp3_q, kPp4_q, kPp5_d, kPp5_b, sFldP_q, kFp1_q, kFp2_q, kFp3_o, ePop_q, kPo1_q, kPo2_d, kPo3_q, kPo4_q, kPo5_q, kPo6_d, kPo7_n, kPo7_d, kCM5_q, kCM4_q, kCM3_q, kCM2_q, kCM1_q, eCallM_q, kRM_q, kRM2_r, kRM2_n, runM_q, startM_q, kKl_q, eKeysL_q, kKL_q, keysT_d, kVl_q, eValsL_q, kVL_q, kDC2_q, eDictC_q, kDC_q, kDP3_q, kDP2_q, eDictP_q, kDP_q, iDic_q, kDc_q, kV_dt]
  · simp (disch := omega) only [ih, z, ↓reduceIte, and_self, bindS, mapS, eV_q, kV_p, kV_l, kV_t, eM_q, kM_s, eB_q, kB_s, eC_q, eW_q, kW_p, aN_q, aC_q, kAC_q, kCons_q, aMv_q, kMv_s, kMv2_q, kMv3_s, eL_q, kL_q, eT_q, kT_q, kP_q, kBl_q, kT2_q, eFz_q, kFz_q, eOp_q, kOp1_q, kOp2_q, eCmp_q, kCm1_q, kCm2_q, eNeg_q, kNeg_q, eChain_q, kCh1_q, kCh2_q, kCh3_q, cT_q, kcT_q, cNot_q, kNot_q, cAnd_q, kcAnd_t, kcAnd_f, cOr_q, kcOr_t, kcOr_f, eIf_q, keIf_t, keIf_f, eAnd_q, keAnd_t, keAnd_f, eOr_q, keOr_t, keOr_f, eNot_q, keNot_q, sIf_q, kcIf_t, kcIf_f, eB1_q, kB1_q, eI2_q, kI2_q, eIsi_q, kIsi_q, kLst_q, eList_q, kList_q, kTpl_q, eTuple_q, kTuple_q, eCall_q, kCall_q, kCall2_q, eCallB_q, kCallB_q, kCl_q, allP_n, allP_c, eIx_q, kIx1_q, kIx2_q, oN_q, oS_q, koS_q, eSl_q, kSl1_q, kSl2_q, kSl3_q, cutT_p, cutT_l, sNx_q, sBk_q, sCt_q, sRetN_q, sSeq_q, kSeq_n, kSeq_r, kSeq_b, kSeq_c, sRet_q, kRet_q, sSet_q, kSet_q, sDrop_q, kDrop_q, gNm_q, gEnd_q, gAnd_q, gTp_q, kTp_q, partsT_p, partsT_t, kNx_q, sAsg_q, kAsg_q, sFor_q, kFor_q, loop_n, loop_c, kLp1_q, kLp2_n, kLp2_c, kLp2_b, kLp2_r, iL_q, kiL_q, iTp_q, kiTp_q, iSg_q, kiSg_q, iR1_q, kR1_q, iR2_q, kR2_q, iEn_q, kEn_q, iZp_q, kZp_q, kZp_t, sForV_q, kForV_q, kForV1_q, kForV2_n, kForV2_r, atL_q, kAtL_q, sApp_q, kApp_q, kApp1_q, kApp2_q, sPut_q, kPut_q, kPut1_q, kPut2_q, kPut3_q, kPut4_q, kPutEnd_q, asI_q, sAugIx_q, kAx_q, kAx0_q, kAx1_q, kAx2_q, kAx3_q, kAx4_q, kAx5_q, kAx6_q, kAx7_q, kAx8_q, sAug_q, kAug_q, kAug2_q, kAug3_q, comp_n, comp_c, kCp1_q, kCp2_t, kCp2_f, kCp3_q, kCp4_q, eComp_q, kComp_q, kLs_q, cYes_q, wipe_n, wipe_c, eM1_q, kM11_q, kM12_q, eSplit_q, kSp1_q, kSp2_q, eJoin_q, kJn1_q, kJn2_q, kJn3_q, kJn4_q, eCat_q, kCt0_q, kCt1_q, kCt2_q, kCt3_pl, kCt3_ll, kCt3_lp, kCt3_pp, itemsT_p, itemsT_t, itemsT_ll, isLT_p, isLT_l, eDn_q, eDix_q, kDx1_q, kDx2_q, kDx3_q, kDx4_q, eDget_q, kDg1_q, kDg2_q, kDg3_q, kDg4_q, kDg5_q, eDin_q, kDi1_q, kDi2_q, kDi3_q, kDi4_t, kDi4_f, sPutD_q, kPd1_q, kPd2_q, kPd3_q, kPd4_q, kPd5_q, atD_q, kAtD_q, dicT_p, dicT_o, keyT_i, keyT_s, toD_d, kV_d, sForM_q, kForM_q, loopT_n, loopT_c, kLt1_q, kLt2_n, kLt2_r, eM0_q, kM0_q, iR3_q, runF_q, kRun_r, kRun_n, cutT_s, gStarts, gFind, startE, T.toDs, T.toD, cleanT, tyD, tyOk, List.length_cons, List.length_nil, List.length_map, List.map_cons, List.map_nil, List.replicate, List.cons_append, List.nil_append, List.getElem?_cons_zero, List.getElem?_cons_succ, List.set_cons_zero, List.set_cons_succ, Nat.reduceAdd, Nat.reduceSub, Nat.reduceLT, Nat.reduceLeDiff, Nat.zero_add, gAdd_i, gAdd_g, gSub_i, gAddI_i, gMul_l, gMul_r, gDiv_i, gMod_i, gPow_i, gMulA_g, cLt_i, cLe_i, cGt_i, cGe_i, eqQ_i, neQ_i, eqQ_g, neQ_g, eqQ_ints, neQ_ints, eqQ_b, neQ_b, inQ_g, notInQ_g, gLen_g, gStr_i, gStr_s, gSum_p, gSum_l, gLen_p, gLen_l, toD_l, toDs_p, allP_map, ixT_lst, ixT_pl, ixT_pt, ixT_sg, signsD_g, atI_0, atI_1, atI_2, atI_3, atI_4, atI_5, atI_6, ofS, sg_len, ifLe, ifLt, rng_len, decide_true, decide_false, Bool.false_eq_true, Bool.not_true, Bool.not_false, Int.reduceLT, Int.reduceLE, Int.reduceEq, kit_ii, kit_ib, kit_ll, kit_bb, kit_bi, kit_ss, kit_tt, kit_tl, kit_lt, kit_ls, kit_li, kit_lb, kit_is, kit_si, kit_sb, kit_ti, kit_tb, kit_ts, toKs_pairs, iZpS_q, kZpS_q, iKy, iIts, iVls, List.nil_append, pNm_q, kPN_s, unb_l, unb_d, unb_o, unb_t, unb_p, unb_b, reb_l, reb_d, reb_o, reb_t, reb_p, reb_b, atP_q, kAtP_s, getP_n, getP_c, stepT_k, stepT_ix, stepT_it, stepT_f, putP_q, kPutP_s, setP_n, setP_c, kSP_s, setS_k, setS_ix, setS_it, setS_f, kPF3_q, pFld_q, kPF1_q, kPF2_o, kPF2_b, kPK4_q, pKey_q, kPK0_q, kPK1_q, kPK2_q, kPK3_d, kPK3_b, kPI5_q, kPI4_t, kPI4_l, pIx_q, kPI1_q, kPI2_q, kPI3_l, kPI3_t, eFl_q, kFl_q, valF_o, eDk_q, kDk1_q, kDk2_q, kDk3_q, valK_d, valK_p, sAppP_q, kAp1_q, kAp2_l, kAp2_b, kAp3_q, kAp4_l, kAp4_b, sExtP_q, kEx1_q, kEx2_l, kEx3_q, kEx4_l, sRevP_q, kRv1_q, kRv2_l, sPutP_q, kPp1_q, kPp2_q, kPp3_q, kPp4_q, kPp5_d, kPp5_b, sFldP_q, kFp1_q, kFp2_q, kFp3_o, ePop_q, kPo1_q, kPo2_d, kPo3_q, kPo4_q, kPo5_q, kPo6_d, kPo7_n, kPo7_d, kCM5_q, kCM4_q, kCM3_q, kCM2_q, kCM1_q, eCallM_q, kRM_q, kRM2_r, kRM2_n, runM_q, startM_q, kKl_q, eKeysL_q, kKL_q, keysT_d, kVl_q, eValsL_q, kVL_q, kDC2_q, eDictC_q, kDC_q, kDP3_q, kDP2_q, eDictP_q, kDP_q, iDic_q, kDc_q, kV_dt]
theorem left_loop (a0 a1 a2 a3 a4 a6 a10 a11 a12 a13 : Option T) (bs : List Debt) (h : ∀ b ∈ bs, PlOk b.2.2) (hl : bs.length ≤ 1000) (many : Int) (a7 a8 a9 : Option T) :
    ∃ b7 b8 b9 b15, loopD (gTp 3 (gAnd (gNm 7) (gAnd (gNm 8) (gAnd (gNm 9) gEnd)))) B_law_3 (bs.map debtD) [a0, a1, a2, a3, a4, some (.p (.int many)), a6, a7, a8, a9, a10, a11, a12, a13, none, none, some (.lst []), none] =
      some (.nx, [a0, a1, a2, a3, a4, some (.p (.int many)), a6, b7, b8, b9, a10, a11, a12, a13, none, b15, some (.lst (((leftL (bs.map (restP many))).map rwD).map T.p)), none]) := by
  obtain ⟨e, h1, b7, b8, b9, b15, he⟩ := loop_img0 (G := gTp 3 (gAnd (gNm 7) (gAnd (gNm 8) (gAnd (gNm 9) gEnd)))) (F := B_law_3) debtD (fun done e => ∃ b7 b8 b9 b15, e = [a0, a1, a2, a3, a4, some (.p (.int many)), a6, b7, b8, b9, a10, a11, a12, a13, none, b15, some (.lst (((leftL (done.map (restP many))).map rwD).map T.p)), none]) bs
    (env := [a0, a1, a2, a3, a4, some (.p (.int many)), a6, a7, a8, a9, a10, a11, a12, a13, none, none, some (.lst []), none]) ⟨a7, a8, a9, none, rfl⟩ (by
    rintro pre x post e hp ⟨b7, b8, b9, b15, rfl⟩
    have hxo := h x (by rw [hp]; simp)
    have hc := fun a15 => sum_comp a0 a1 a2 a3 a4 a6 (some (.p (.str (sg x.1)))) (some (.p (.str (sg x.2.1)))) (some (.p (.lst (x.2.2.map plD)))) a10 a11 a12 a13 none a15 (some (.lst (((leftL (pre.map (restP many))).map rwD).map T.p))) many x.2.2
    have hl1 : x.2.2.length ≤ 1000000 := by have := hxo.2.2; omega
    have hg : gSum (.lst ((x.2.2.filter fun p => decide (many < p.1)).map (fun p => T.p (.int p.2)))) = some (.int (sumP (restP many x).2)) := by
      have := gSum_l (ns := (x.2.2.filter fun p => decide (many < p.1)).map (·.2))
      rw [List.map_map, List.map_map] at this
      exact this
    have hll : (leftL (pre.map (restP many))).length < 16000000 := by
      unfold leftL
      rw [List.length_map]
      have h1 := List.length_filter_le (fun x : Pn => decide (0 < sumP x.2)) (pre.map (restP many))
      have h2 := congrArg List.length hp
      simp at h1 h2; omega
    have app : leftL ((pre ++ [x]).map (restP many)) = leftL (pre.map (restP many)) ++ (if 0 < sumP (restP many x).2 then [(x.1, sumP (restP many x).2)] else []) := by
      unfold leftL
      rw [List.map_append, List.filter_append, List.map_append]
      by_cases q : 0 < sumP (restP many x).2
      · rw [if_pos q]
        show _ ++ List.map _ (List.filter _ [restP many x]) = _
        rw [List.filter_cons_of_pos (by rw [decide_eq_true_eq]; exact q)]; rfl
      · rw [if_neg q]
        show _ ++ List.map _ (List.filter _ [restP many x]) = _
        rw [List.filter_cons_of_neg (by rw [decide_eq_true_eq]; exact q)]; rfl
    rw [app]
    generalize sumP (restP many x).2 = sm at *
    obtain ⟨x1, x2, x3⟩ := x
    by_cases q : 0 < sm
    · refine ⟨[a0, a1, a2, a3, a4, some (.p (.int many)), a6, some (.p (.str (sg x1))), some (.p (.str (sg x2))), some (.p (.lst (x3.map plD))), a10, a11, a12, a13, none, some (.p (.int sm)), some (.lst (((leftL (pre.map (restP many)) ++ [(x1, sm)]).map rwD).map T.p)), none], .inl ?_, _, _, _, _, by rw [if_pos q]⟩
      rw [show debtD (x1, x2, x3) = .tup [.str (sg x1), .str (sg x2), .lst (x3.map plD)] from rfl]
      simp (disch := omega) only [B_law_3, hc, hl1, hg, q, hll, gT_pair, ↓reduceIte, and_self, bindS, mapS, eV_q, kV_p, kV_l, kV_t, eM_q, kM_s, eB_q, kB_s, eC_q, eW_q, kW_p, aN_q, aC_q, kAC_q, kCons_q, aMv_q, kMv_s, kMv2_q, kMv3_s, eL_q, kL_q, eT_q, kT_q, kP_q, kBl_q, kT2_q, eFz_q, kFz_q, eOp_q, kOp1_q, kOp2_q, eCmp_q, kCm1_q, kCm2_q, eNeg_q, kNeg_q, eChain_q, kCh1_q, kCh2_q, kCh3_q, cT_q, kcT_q, cNot_q, kNot_q, cAnd_q, kcAnd_t, kcAnd_f, cOr_q, kcOr_t, kcOr_f, eIf_q, keIf_t, keIf_f, eAnd_q, keAnd_t, keAnd_f, eOr_q, keOr_t, keOr_f, eNot_q, keNot_q, sIf_q, kcIf_t, kcIf_f, eB1_q, kB1_q, eI2_q, kI2_q, eIsi_q, kIsi_q, kLst_q, eList_q, kList_q, kTpl_q, eTuple_q, kTuple_q, eCall_q, kCall_q, kCall2_q, eCallB_q, kCallB_q, kCl_q, allP_n, allP_c, eIx_q, kIx1_q, kIx2_q, oN_q, oS_q, koS_q, eSl_q, kSl1_q, kSl2_q, kSl3_q, cutT_p, cutT_l, sNx_q, sBk_q, sCt_q, sRetN_q, sSeq_q, kSeq_n, kSeq_r, kSeq_b, kSeq_c, sRet_q, kRet_q, sSet_q, kSet_q, sDrop_q, kDrop_q, gNm_q, gEnd_q, gAnd_q, gTp_q, kTp_q, partsT_p, partsT_t, kNx_q, sAsg_q, kAsg_q, sFor_q, kFor_q, loop_n, loop_c, kLp1_q, kLp2_n, kLp2_c, kLp2_b, kLp2_r, iL_q, kiL_q, iTp_q, kiTp_q, iSg_q, kiSg_q, iR1_q, kR1_q, iR2_q, kR2_q, iEn_q, kEn_q, iZp_q, kZp_q, kZp_t, sForV_q, kForV_q, kForV1_q, kForV2_n, kForV2_r, atL_q, kAtL_q, sApp_q, kApp_q, kApp1_q, kApp2_q, sPut_q, kPut_q, kPut1_q, kPut2_q, kPut3_q, kPut4_q, kPutEnd_q, asI_q, sAugIx_q, kAx_q, kAx0_q, kAx1_q, kAx2_q, kAx3_q, kAx4_q, kAx5_q, kAx6_q, kAx7_q, kAx8_q, sAug_q, kAug_q, kAug2_q, kAug3_q, comp_n, comp_c, kCp1_q, kCp2_t, kCp2_f, kCp3_q, kCp4_q, eComp_q, kComp_q, kLs_q, cYes_q, wipe_n, wipe_c, eM1_q, kM11_q, kM12_q, eSplit_q, kSp1_q, kSp2_q, eJoin_q, kJn1_q, kJn2_q, kJn3_q, kJn4_q, eCat_q, kCt0_q, kCt1_q, kCt2_q, kCt3_pl, kCt3_ll, kCt3_lp, kCt3_pp, itemsT_p, itemsT_t, itemsT_ll, isLT_p, isLT_l, eDn_q, eDix_q, kDx1_q, kDx2_q, kDx3_q, kDx4_q, eDget_q, kDg1_q, kDg2_q, kDg3_q, kDg4_q, kDg5_q, eDin_q, kDi1_q, kDi2_q, kDi3_q, kDi4_t, kDi4_f, sPutD_q, kPd1_q, kPd2_q, kPd3_q, kPd4_q, kPd5_q, atD_q, kAtD_q, dicT_p, dicT_o, keyT_i, keyT_s, toD_d, kV_d, sForM_q, kForM_q, loopT_n, loopT_c, kLt1_q, kLt2_n, kLt2_r, eM0_q, kM0_q, iR3_q, runF_q, kRun_r, kRun_n, cutT_s, gStarts, gFind, startE, T.toDs, T.toD, cleanT, tyD, tyOk, List.length_cons, List.length_nil, List.length_map, List.map_cons, List.map_nil, List.replicate, List.cons_append, List.nil_append, List.getElem?_cons_zero, List.getElem?_cons_succ, List.set_cons_zero, List.set_cons_succ, Nat.reduceAdd, Nat.reduceSub, Nat.reduceLT, Nat.reduceLeDiff, Nat.zero_add, gAdd_i, gAdd_g, gSub_i, gAddI_i, gMul_l, gMul_r, gDiv_i, gMod_i, gPow_i, gMulA_g, cLt_i, cLe_i, cGt_i, cGe_i, eqQ_i, neQ_i, eqQ_g, neQ_g, eqQ_ints, neQ_ints, eqQ_b, neQ_b, inQ_g, notInQ_g, gLen_g, gStr_i, gStr_s, gSum_p, gSum_l, gLen_p, gLen_l, toD_l, toDs_p, allP_map, ixT_lst, ixT_pl, ixT_pt, ixT_sg, signsD_g, atI_0, atI_1, atI_2, atI_3, atI_4, atI_5, atI_6, ofS, sg_len, ifLe, ifLt, rng_len, decide_true, decide_false, Bool.false_eq_true, Bool.not_true, Bool.not_false, Int.reduceLT, Int.reduceLE, Int.reduceEq, kit_ii, kit_ib, kit_ll, kit_bb, kit_bi, kit_ss, kit_tt, kit_tl, kit_lt, kit_ls, kit_li, kit_lb, kit_is, kit_si, kit_sb, kit_ti, kit_tb, kit_ts, toKs_pairs, iZpS_q, kZpS_q, iKy, iIts, iVls, List.nil_append, pNm_q, kPN_s, unb_l, unb_d, unb_o, unb_t, unb_p, unb_b, reb_l, reb_d, reb_o, reb_t, reb_p, reb_b, atP_q, kAtP_s, getP_n, getP_c, stepT_k, stepT_ix, stepT_it, stepT_f, putP_q, kPutP_s, setP_n, setP_c, kSP_s, setS_k, setS_ix, setS_it, setS_f, kPF3_q, pFld_q, kPF1_q, kPF2_o, kPF2_b, kPK4_q, pKey_q, kPK0_q, kPK1_q, kPK2_q, kPK3_d, kPK3_b, kPI5_q, kPI4_t, kPI4_l, pIx_q, kPI1_q, kPI2_q, kPI3_l, kPI3_t, eFl_q, kFl_q, valF_o, eDk_q, kDk1_q, kDk2_q, kDk3_q, valK_d, valK_p, sAppP_q, kAp1_q, kAp2_l, kAp2_b, kAp3_q, kAp4_l, kAp4_b, sExtP_q, kEx1_q, kEx2_l, kEx3_q, kEx4_l, sRevP_q, kRv1_q, kRv2_l, sPutP_q, kPp1_q, kPp2_q, kPp3_q, kPp4_q, kPp5_d, kPp5_b, sFldP_q, kFp1_q, kFp2_q, kFp3_o, ePop_q, kPo1_q, kPo2_d, kPo3_q, kPo4_q, kPo5_q, kPo6_d, kPo7_n, kPo7_d, kCM5_q, kCM4_q, kCM3_q, kCM2_q, kCM1_q, eCallM_q, kRM_q, kRM2_r, kRM2_n, runM_q, startM_q, kKl_q, eKeysL_q, kKL_q, keysT_d, kVl_q, eValsL_q, kVL_q, kDC2_q, eDictC_q, kDC_q, kDP3_q, kDP2_q, eDictP_q, kDP_q, iDic_q, kDc_q, kV_dt]
      simp [rwD]
    · refine ⟨[a0, a1, a2, a3, a4, some (.p (.int many)), a6, some (.p (.str (sg x1))), some (.p (.str (sg x2))), some (.p (.lst (x3.map plD))), a10, a11, a12, a13, none, some (.p (.int sm)), some (.lst (((leftL (pre.map (restP many))).map rwD).map T.p)), none], .inl ?_, _, _, _, _, by rw [if_neg q, List.append_nil]⟩
      rw [show debtD (x1, x2, x3) = .tup [.str (sg x1), .str (sg x2), .lst (x3.map plD)] from rfl]
      simp (disch := omega) only [B_law_3, hc, hl1, hg, q, ↓reduceIte, and_self, bindS, mapS, eV_q, kV_p, kV_l, kV_t, eM_q, kM_s, eB_q, kB_s, eC_q, eW_q, kW_p, aN_q, aC_q, kAC_q, kCons_q, aMv_q, kMv_s, kMv2_q, kMv3_s, eL_q, kL_q, eT_q, kT_q, kP_q, kBl_q, kT2_q, eFz_q, kFz_q, eOp_q, kOp1_q, kOp2_q, eCmp_q, kCm1_q, kCm2_q, eNeg_q, kNeg_q, eChain_q, kCh1_q, kCh2_q, kCh3_q, cT_q, kcT_q, cNot_q, kNot_q, cAnd_q, kcAnd_t, kcAnd_f, cOr_q, kcOr_t, kcOr_f, eIf_q, keIf_t, keIf_f, eAnd_q, keAnd_t, keAnd_f, eOr_q, keOr_t, keOr_f, eNot_q, keNot_q, sIf_q, kcIf_t, kcIf_f, eB1_q, kB1_q, eI2_q, kI2_q, eIsi_q, kIsi_q, kLst_q, eList_q, kList_q, kTpl_q, eTuple_q, kTuple_q, eCall_q, kCall_q, kCall2_q, eCallB_q, kCallB_q, kCl_q, allP_n, allP_c, eIx_q, kIx1_q, kIx2_q, oN_q, oS_q, koS_q, eSl_q, kSl1_q, kSl2_q, kSl3_q, cutT_p, cutT_l, sNx_q, sBk_q, sCt_q, sRetN_q, sSeq_q, kSeq_n, kSeq_r, kSeq_b, kSeq_c, sRet_q, kRet_q, sSet_q, kSet_q, sDrop_q, kDrop_q, gNm_q, gEnd_q, gAnd_q, gTp_q, kTp_q, partsT_p, partsT_t, kNx_q, sAsg_q, kAsg_q, sFor_q, kFor_q, loop_n, loop_c, kLp1_q, kLp2_n, kLp2_c, kLp2_b, kLp2_r, iL_q, kiL_q, iTp_q, kiTp_q, iSg_q, kiSg_q, iR1_q, kR1_q, iR2_q, kR2_q, iEn_q, kEn_q, iZp_q, kZp_q, kZp_t, sForV_q, kForV_q, kForV1_q, kForV2_n, kForV2_r, atL_q, kAtL_q, sApp_q, kApp_q, kApp1_q, kApp2_q, sPut_q, kPut_q, kPut1_q, kPut2_q, kPut3_q, kPut4_q, kPutEnd_q, asI_q, sAugIx_q, kAx_q, kAx0_q, kAx1_q, kAx2_q, kAx3_q, kAx4_q, kAx5_q, kAx6_q, kAx7_q, kAx8_q, sAug_q, kAug_q, kAug2_q, kAug3_q, comp_n, comp_c, kCp1_q, kCp2_t, kCp2_f, kCp3_q, kCp4_q, eComp_q, kComp_q, kLs_q, cYes_q, wipe_n, wipe_c, eM1_q, kM11_q, kM12_q, eSplit_q, kSp1_q, kSp2_q, eJoin_q, kJn1_q, kJn2_q, kJn3_q, kJn4_q, eCat_q, kCt0_q, kCt1_q, kCt2_q, kCt3_pl, kCt3_ll, kCt3_lp, kCt3_pp, itemsT_p, itemsT_t, itemsT_ll, isLT_p, isLT_l, eDn_q, eDix_q, kDx1_q, kDx2_q, kDx3_q, kDx4_q, eDget_q, kDg1_q, kDg2_q, kDg3_q, kDg4_q, kDg5_q, eDin_q, kDi1_q, kDi2_q, kDi3_q, kDi4_t, kDi4_f, sPutD_q, kPd1_q, kPd2_q, kPd3_q, kPd4_q, kPd5_q, atD_q, kAtD_q, dicT_p, dicT_o, keyT_i, keyT_s, toD_d, kV_d, sForM_q, kForM_q, loopT_n, loopT_c, kLt1_q, kLt2_n, kLt2_r, eM0_q, kM0_q, iR3_q, runF_q, kRun_r, kRun_n, cutT_s, gStarts, gFind, startE, T.toDs, T.toD, cleanT, tyD, tyOk, List.length_cons, List.length_nil, List.length_map, List.map_cons, List.map_nil, List.replicate, List.cons_append, List.nil_append, List.getElem?_cons_zero, List.getElem?_cons_succ, List.set_cons_zero, List.set_cons_succ, Nat.reduceAdd, Nat.reduceSub, Nat.reduceLT, Nat.reduceLeDiff, Nat.zero_add, gAdd_i, gAdd_g, gSub_i, gAddI_i, gMul_l, gMul_r, gDiv_i, gMod_i, gPow_i, gMulA_g, cLt_i, cLe_i, cGt_i, cGe_i, eqQ_i, neQ_i, eqQ_g, neQ_g, eqQ_ints, neQ_ints, eqQ_b, neQ_b, inQ_g, notInQ_g, gLen_g, gStr_i, gStr_s, gSum_p, gSum_l, gLen_p, gLen_l, toD_l, toDs_p, allP_map, ixT_lst, ixT_pl, ixT_pt, ixT_sg, signsD_g, atI_0, atI_1, atI_2, atI_3, atI_4, atI_5, atI_6, ofS, sg_len, ifLe, ifLt, rng_len, decide_true, decide_false, Bool.false_eq_true, Bool.not_true, Bool.not_false, Int.reduceLT, Int.reduceLE, Int.reduceEq, kit_ii, kit_ib, kit_ll, kit_bb, kit_bi, kit_ss, kit_tt, kit_tl, kit_lt, kit_ls, kit_li, kit_lb, kit_is, kit_si, kit_sb, kit_ti, kit_tb, kit_ts, toKs_pairs, iZpS_q, kZpS_q, iKy, iIts, iVls, List.nil_append, pNm_q, kPN_s, unb_l, unb_d, unb_o, unb_t, unb_p, unb_b, reb_l, reb_d, reb_o, reb_t, reb_p, reb_b, atP_q, kAtP_s, getP_n, getP_c, stepT_k, stepT_ix, stepT_it, stepT_f, putP_q, kPutP_s, setP_n, setP_c, kSP_s, setS_k, setS_ix, setS_it, setS_f, kPF3_q, pFld_q, kPF1_q, kPF2_o, kPF2_b, kPK4_q, pKey_q, kPK0_q, kPK1_q, kPK2_q, kPK3_d, kPK3_b, kPI5_q, kPI4_t, kPI4_l, pIx_q, kPI1_q, kPI2_q, kPI3_l, kPI3_t, eFl_q, kFl_q, valF_o, eDk_q, kDk1_q, kDk2_q, kDk3_q, valK_d, valK_p, sAppP_q, kAp1_q, kAp2_l, kAp2_b, kAp3_q, kAp4_l, kAp4_b, sExtP_q, kEx1_q, kEx2_l, kEx3_q, kEx4_l, sRevP_q, kRv1_q, kRv2_l, sPutP_q, kPp1_q, kPp2_q, kPp3_q, kPp4_q, kPp5_d, kPp5_b, sFldP_q, kFp1_q, kFp2_q, kFp3_o, ePop_q, kPo1_q, kPo2_d, kPo3_q, kPo4_q, kPo5_q, kPo6_d, kPo7_n, kPo7_d, kCM5_q, kCM4_q, kCM3_q, kCM2_q, kCM1_q, eCallM_q, kRM_q, kRM2_r, kRM2_n, runM_q, startM_q, kKl_q, eKeysL_q, kKL_q, keysT_d, kVl_q, eValsL_q, kVL_q, kDC2_q, eDictC_q, kDC_q, kDP3_q, kDP2_q, eDictP_q, kDP_q, iDic_q, kDc_q, kV_dt])
  subst he
  exact ⟨b7, b8, b9, b15, h1⟩
theorem told_parts (bs : List Debt) (n : Nat) (hn : n ≤ 1000) (hl : bs.length ≤ 1000) : ∃ A B, toldT bs n = .tup [.lst A, .lst B] ∧ T.toDs A = daysD bs n ∧ T.toDs B = (leftL (passed (bs.map toPn) 1 n)).map rwD ∧ A.length < 16000000 ∧ B.length < 16000000 := by
  refine ⟨_, _, rfl, ?_, ?_, ?_, ?_⟩
  · refine toDs_map2 _ _ _ fun k _ => ?_
    show D.tup [D.lst (T.toDs _), D.lst []] = _
    rw [toDs_p]; rfl
  · exact toDs_p _
  · rw [List.length_map, List.length_range]; omega
  · unfold leftL
    rw [List.length_map, List.length_map, List.length_map]
    have h1 := List.length_filter_le (fun x : Pn => decide (0 < sumP x.2)) (passed (bs.map toPn) 1 n)
    have h2 := LP.passed_len n (bs.map toPn) 1
    simp at h2; omega
theorem ints7 {m : Int} (h : 0 ≤ m) : ∃ M : Int, 0 ≤ M ∧ M ≤ 120 ∧ ixT (.lst [.p (.int 0), .p (.int 1), .p (.int 59), .p (.int 60), .p (.int 120), .p (.int (m / 7 % 121)), .p (.int (m / 7 % 25))]) (m % 7) = some (.p (.int M)) := by
  have : m % 7 = 0 ∨ m % 7 = 1 ∨ m % 7 = 2 ∨ m % 7 = 3 ∨ m % 7 = 4 ∨ m % 7 = 5 ∨ m % 7 = 6 := by omega
  rcases this with e | e | e | e | e | e | e <;> rw [e]
  · exact ⟨0, by omega, by omega, rfl⟩
  · exact ⟨1, by omega, by omega, rfl⟩
  · exact ⟨59, by omega, by omega, rfl⟩
  · exact ⟨60, by omega, by omega, rfl⟩
  · exact ⟨120, by omega, by omega, rfl⟩
  · exact ⟨m / 7 % 121, by omega, by omega, rfl⟩
  · exact ⟨m / 7 % 25, by omega, by omega, rfl⟩
theorem aOk_tup {n : Nat} {ds : List D} (hl : ds.length ≤ 1000000) (h : ∀ d ∈ ds, LW.aOk n d = true) : LW.aOk (n + 1) (.tup ds) = true := by
  unfold LW.aOk
  rw [decide_eq_true hl, LW.aOks_all.mpr h]; rfl
theorem aOk_lst {n : Nat} {ds : List D} (hl : ds.length ≤ 1000000) (h : ∀ d ∈ ds, LW.aOk n d = true) : LW.aOk (n + 1) (.lst ds) = true := by
  unfold LW.aOk
  rw [decide_eq_true hl, LW.aOks_all.mpr h]; rfl
theorem aOk_rw {n : Nat} (r : Rw) : LW.aOk (n + 1) (rwD r) = true := aOk_tup (by simp) fun d hd => by
  simp only [List.mem_cons, List.not_mem_nil, or_false] at hd
  rcases hd with rfl | rfl <;> (unfold LW.aOk; rfl)
theorem aOk_rows {n : Nat} {rs : List Rw} (h : rs.length ≤ 1000) : LW.aOk (n + 2) (.lst (rs.map rwD)) = true := aOk_lst (by simp; omega) fun d hd => by
  obtain ⟨r, _, rfl⟩ := List.mem_map.mp hd
  exact aOk_rw r
theorem dOk_pl {n : Nat} (p : Pl) : dOk (n + 1) (plD p) = true := dOk_tup fun d hd => by
  simp only [List.mem_cons, List.not_mem_nil, or_false] at hd
  rcases hd with rfl | rfl <;> rfl
theorem wD_ok {n : Nat} {l : List Nat} (h : NameOk l) : dOk n (.str (sg l)) = true := dOk_sg fun c hc => by have := h.low c hc; omega
theorem law_true (ns : List Int) (hl : ns.length ≤ 63) (hb : ∀ z ∈ ns, Builtin.Int.intBits z ≤ 1048576) : phi_law [.lst (ns.map D.int)] = some (.p (.bl true)) := by
  obtain ⟨c0, hc0⟩ := cell_ok ns 0 (by omega)
  obtain ⟨c1, hc1⟩ := cell_ok ns 1 (by omega)
  have m1 := mixed_ok c1 1 (by omega)
  have mr := mixed_range c1 1
  have hn := names_ok c0 30 (by omega)
  have hp := names_ok c1 4 (by omega)
  have oN := LW.namesL_ok (c := c0) (many := 30) (by omega)
  have oP := LW.namesL_ok (c := c1) (many := 4) (by omega)
  have lN : (namesL c0 30).length = 30 := LW.namesL_len c0 30
  have lP : (namesL c1 4).length = 4 := LW.namesL_len c1 4
  have nN : (namesL c0 30).Nodup := LW.namesL_nodup (by omega)
  generalize namesL c0 30 = NS at *
  generalize namesL c1 4 = PS at *
  generalize mixed c1 1 = m at *
  have hcl := cutA_len ns (some 2) (some 62)
  obtain ⟨bs, h1, hds, hbl⟩ := debts_ok (cutA ns (some 2) (some 62)) (by omega) NS PS (by omega) (by omega)
  have hbo : BsOk bs := LP.ds_ok nN (by omega) hds
  have hpo : ∀ b ∈ bs, PlOk b.2.2 := fun b hb => (hds.2.2 b hb).2
  have hbl : bs.length ≤ 30 := by have := hds.2.1; omega
  obtain ⟨M, M0, M1, hM⟩ := ints7 mr.1
  have ht := told_ok hbo (many := M) (by omega)
  obtain ⟨A, B, hAB, hA, hB, lA, lB⟩ := told_parts bs M.toNat (by omega) (by omega)
  rw [hAB] at ht
  have hleft := LP.left_eq hpo M M0
  have hcomp := fun a10 => hand_comp (some (.p (.lst (ns.map D.int)))) (some (.p (.lst (NS.map wD)))) (some (.p (.lst (PS.map wD)))) (some (.p (.lst (bs.map debtD)))) (some (.p (.int m))) (some (.p (.int M))) none a10 none none none none none none none bs hpo
  have hbl1 : bs.length ≤ 1000000 := by omega
  have e1 : (M + 1 - 1).toNat = M.toNat := by congr 1; omega
  obtain ⟨b7, b8, b9, b12, b13, hd⟩ := days_loop (some (.p (.lst (ns.map D.int)))) (some (.p (.lst (NS.map wD)))) (some (.p (.lst (PS.map wD)))) (some (.p (.int m))) (some (.p (.int M))) (some (.p (.lst (bs.map debtD)))) (some (.tup [.lst A, .lst B])) none none bs hpo (by omega) M.toNat (by omega) none none none
  obtain ⟨d7, d8, d9, d15, hlf⟩ := left_loop (some (.p (.lst (ns.map D.int)))) (some (.p (.lst (NS.map wD)))) (some (.p (.lst (PS.map wD)))) (some (.p (.lst (bs.map debtD)))) (some (.p (.int m))) (some (.p (.lst (bs.map debtD)))) (some (.tup [.lst A, .lst B])) (some (.lst ((daysD bs M.toNat).map T.p))) b12 b13 bs hpo (by omega) M b7 b8 b9
  have hleft' : passed (bs.map toPn) 1 M.toNat = bs.map (restP M) := hleft
  rw [hleft'] at hB
  have hLL : (leftL (bs.map (restP M))).length ≤ 1000 := by
    unfold leftL
    rw [List.length_map]
    have h1 := List.length_filter_le (fun x : Pn => decide (0 < sumP x.2)) (bs.map (restP M))
    simp at h1; omega
  generalize leftL (bs.map (restP M)) = LL at *
  have hhd := hand_toDs bs
  have hal := alike_ok (.tup [.lst (daysD bs M.toNat), .lst (LL.map rwD)]) (aOk_tup (by simp) fun d hd => by
    simp only [List.mem_cons, List.not_mem_nil, or_false] at hd
    rcases hd with rfl | rfl
    · refine aOk_lst (by unfold daysD; rw [List.length_map, List.length_range]; omega) fun d hd => ?_
      obtain ⟨k, _, rfl⟩ := List.mem_map.mp hd
      refine aOk_tup (by simp) fun d hd => ?_
      simp only [List.mem_cons, List.not_mem_nil, or_false] at hd
      rcases hd with rfl | rfl
      · refine aOk_rows ?_
        have := LP.paid_len (1 + (k : Int)) (bs.map toPn) fun x hx => by
          obtain ⟨b, hb, rfl⟩ := List.mem_map.mp hx
          exact hbo.2.1 b hb
        simp at this; omega
      · exact aOk_rows (rs := []) (by simp)
    · exact aOk_rows hLL)
  have heq : eqQ (.lst (bs.map debtD)) (.lst (bs.map debtD)) = some true := eqQ_refl 10 (by omega) (dOk_lst fun d hd => by
    obtain ⟨b, hb, rfl⟩ := List.mem_map.mp hd
    refine dOk_tup fun d hd => ?_
    simp only [List.mem_cons, List.not_mem_nil, or_false] at hd
    have hname : b.1 ∈ NS := by
      have : b.1 ∈ bs.map (·.1) := List.mem_map_of_mem hb
      rw [hds.1] at this
      exact List.mem_of_mem_take this
    rcases hd with rfl | rfl | rfl
    · exact wD_ok (oN _ hname)
    · exact wD_ok (oP _ (hds.2.2 b hb).1)
    · refine dOk_lst fun d hd => ?_
      obtain ⟨p, _, rfl⟩ := List.mem_map.mp hd
      exact dOk_pl p)
  have i0 : ixN 2 0 = some 0 := rfl
  have i1 : ixN 2 1 = some 1 := rfl
  unfold phi_law F_law
  simp (disch := omega) only [hc0, hc1, m1, hn, hp, cutD_map, h1, hM, hcomp, hbl1, hhd, ht, e1, hd, hlf, hA, hB, gT_pair, hal, heq, i0, i1, lA, lB, ↓reduceIte, and_self, bindS, mapS, eV_q, kV_p, kV_l, kV_t, eM_q, kM_s, eB_q, kB_s, eC_q, eW_q, kW_p, aN_q, aC_q, kAC_q, kCons_q, aMv_q, kMv_s, kMv2_q, kMv3_s, eL_q, kL_q, eT_q, kT_q, kP_q, kBl_q, kT2_q, eFz_q, kFz_q, eOp_q, kOp1_q, kOp2_q, eCmp_q, kCm1_q, kCm2_q, eNeg_q, kNeg_q, eChain_q, kCh1_q, kCh2_q, kCh3_q, cT_q, kcT_q, cNot_q, kNot_q, cAnd_q, kcAnd_t, kcAnd_f, cOr_q, kcOr_t, kcOr_f, eIf_q, keIf_t, keIf_f, eAnd_q, keAnd_t, keAnd_f, eOr_q, keOr_t, keOr_f, eNot_q, keNot_q, sIf_q, kcIf_t, kcIf_f, eB1_q, kB1_q, eI2_q, kI2_q, eIsi_q, kIsi_q, kLst_q, eList_q, kList_q, kTpl_q, eTuple_q, kTuple_q, eCall_q, kCall_q, kCall2_q, eCallB_q, kCallB_q, kCl_q, allP_n, allP_c, eIx_q, kIx1_q, kIx2_q, oN_q, oS_q, koS_q, eSl_q, kSl1_q, kSl2_q, kSl3_q, cutT_p, cutT_l, sNx_q, sBk_q, sCt_q, sRetN_q, sSeq_q, kSeq_n, kSeq_r, kSeq_b, kSeq_c, sRet_q, kRet_q, sSet_q, kSet_q, sDrop_q, kDrop_q, gNm_q, gEnd_q, gAnd_q, gTp_q, kTp_q, partsT_p, partsT_t, kNx_q, sAsg_q, kAsg_q, sFor_q, kFor_q, loop_n, loop_c, kLp1_q, kLp2_n, kLp2_c, kLp2_b, kLp2_r, iL_q, kiL_q, iTp_q, kiTp_q, iSg_q, kiSg_q, iR1_q, kR1_q, iR2_q, kR2_q, iEn_q, kEn_q, iZp_q, kZp_q, kZp_t, sForV_q, kForV_q, kForV1_q, kForV2_n, kForV2_r, atL_q, kAtL_q, sApp_q, kApp_q, kApp1_q, kApp2_q, sPut_q, kPut_q, kPut1_q, kPut2_q, kPut3_q, kPut4_q, kPutEnd_q, asI_q, sAugIx_q, kAx_q, kAx0_q, kAx1_q, kAx2_q, kAx3_q, kAx4_q, kAx5_q, kAx6_q, kAx7_q, kAx8_q, sAug_q, kAug_q, kAug2_q, kAug3_q, comp_n, comp_c, kCp1_q, kCp2_t, kCp2_f, kCp3_q, kCp4_q, eComp_q, kComp_q, kLs_q, cYes_q, wipe_n, wipe_c, eM1_q, kM11_q, kM12_q, eSplit_q, kSp1_q, kSp2_q, eJoin_q, kJn1_q, kJn2_q, kJn3_q, kJn4_q, eCat_q, kCt0_q, kCt1_q, kCt2_q, kCt3_pl, kCt3_ll, kCt3_lp, kCt3_pp, itemsT_p, itemsT_t, itemsT_ll, isLT_p, isLT_l, eDn_q, eDix_q, kDx1_q, kDx2_q, kDx3_q, kDx4_q, eDget_q, kDg1_q, kDg2_q, kDg3_q, kDg4_q, kDg5_q, eDin_q, kDi1_q, kDi2_q, kDi3_q, kDi4_t, kDi4_f, sPutD_q, kPd1_q, kPd2_q, kPd3_q, kPd4_q, kPd5_q, atD_q, kAtD_q, dicT_p, dicT_o, keyT_i, keyT_s, toD_d, kV_d, sForM_q, kForM_q, loopT_n, loopT_c, kLt1_q, kLt2_n, kLt2_r, eM0_q, kM0_q, iR3_q, runF_q, kRun_r, kRun_n, cutT_s, gStarts, gFind, startE, T.toDs, T.toD, cleanT, tyD, tyOk, List.length_cons, List.length_nil, List.length_map, List.map_cons, List.map_nil, List.replicate, List.cons_append, List.nil_append, List.getElem?_cons_zero, List.getElem?_cons_succ, List.set_cons_zero, List.set_cons_succ, Nat.reduceAdd, Nat.reduceSub, Nat.reduceLT, Nat.reduceLeDiff, Nat.zero_add, gAdd_i, gAdd_g, gSub_i, gAddI_i, gMul_l, gMul_r, gDiv_i, gMod_i, gPow_i, gMulA_g, cLt_i, cLe_i, cGt_i, cGe_i, eqQ_i, neQ_i, eqQ_g, neQ_g, eqQ_ints, neQ_ints, eqQ_b, neQ_b, inQ_g, notInQ_g, gLen_g, gStr_i, gStr_s, gSum_p, gSum_l, gLen_p, gLen_l, toD_l, toDs_p, allP_map, ixT_lst, ixT_pl, ixT_pt, ixT_sg, signsD_g, atI_0, atI_1, atI_2, atI_3, atI_4, atI_5, atI_6, ofS, sg_len, ifLe, ifLt, rng_len, decide_true, decide_false, Bool.false_eq_true, Bool.not_true, Bool.not_false, Int.reduceLT, Int.reduceLE, Int.reduceEq, kit_ii, kit_ib, kit_ll, kit_bb, kit_bi, kit_ss, kit_tt, kit_tl, kit_lt, kit_ls, kit_li, kit_lb, kit_is, kit_si, kit_sb, kit_ti, kit_tb, kit_ts, toKs_pairs, iZpS_q, kZpS_q, iKy, iIts, iVls, List.nil_append, pNm_q, kPN_s, unb_l, unb_d, unb_o, unb_t, unb_p, unb_b, reb_l, reb_d, reb_o, reb_t, reb_p, reb_b, atP_q, kAtP_s, getP_n, getP_c, stepT_k, stepT_ix, stepT_it, stepT_f, putP_q, kPutP_s, setP_n, setP_c, kSP_s, setS_k, setS_ix, setS_it, setS_f, kPF3_q, pFld_q, kPF1_q, kPF2_o, kPF2_b, kPK4_q, pKey_q, kPK0_q, kPK1_q, kPK2_q, kPK3_d, kPK3_b, kPI5_q, kPI4_t, kPI4_l, pIx_q, kPI1_q, kPI2_q, kPI3_l, kPI3_t, eFl_q, kFl_q, valF_o, eDk_q, kDk1_q, kDk2_q, kDk3_q, valK_d, valK_p, sAppP_q, kAp1_q, kAp2_l, kAp2_b, kAp3_q, kAp4_l, kAp4_b, sExtP_q, kEx1_q, kEx2_l, kEx3_q, kEx4_l, sRevP_q, kRv1_q, kRv2_l, sPutP_q, kPp1_q, kPp2_q, kPp3_q, kPp4_q, kPp5_d, kPp5_b, sFldP_q, kFp1_q, kFp2_q, kFp3_o, ePop_q, kPo1_q, kPo2_d, kPo3_q, kPo4_q, kPo5_q, kPo6_d, kPo7_n, kPo7_d, kCM5_q, kCM4_q, kCM3_q, kCM2_q, kCM1_q, eCallM_q, kRM_q, kRM2_r, kRM2_n, runM_q, startM_q, kKl_q, eKeysL_q, kKL_q, keysT_d, kVl_q, eValsL_q, kVL_q, kDC2_q, eDictC_q, kDC_q, kDP3_q, kDP2_q, eDictP_q, kDP_q, iDic_q, kDc_q, kV_dt]
end K14

set_option Elab.async false
set_option linter.all false
set_option maxRecDepth 100000
set_option maxHeartbeats 4000000
open PySem PySem.W PyProof.Rows
set_option maxHeartbeats 0 in
theorem PySem.Challenge.cw_tranchefall_k14_plans_told_holds : PySem.Challenge.rw_tranchefall_k14_plans_told.Holds := by
  w_on; o_law; k_head; (case hw => w_witness2)
  k_fill
  refine DL.walk_D (l := PySem.Challenge.rw_tranchefall_k14_plans_told) (n := 63) (k := 10) (x := "_law_script") (φ := K14.phi_law) rfl (by decide) rfl ⟨rfl, by decide, by decide⟩ (fun w h Y => PySem.W.kIn_of Y) ?F K14.law_true
  case F =>
    intro w mg fa h KX G hmg
    refine' K14.all_mk KX G hmg ?a1 ?l1 ?c1 ?k1 ?a2 ?l2 ?c2 ?k2 ?a3 ?l3 ?c3 ?k3 ?a4 ?l4 ?c4 ?k4 ?a5 ?l5 ?c5 ?k5 ?a6 ?l6 ?c6 ?k6 ?a7 ?l7 ?c7 ?k7 ?a8 ?l8 ?c8 ?k8 ?a9 ?l9 ?c9 ?k9 ?a10 ?l10 ?c10 ?k10 ?a11 ?l11 ?c11 ?k11 ?z1 ?z2 ?z3 ?z4 ?z5 ?z6 ?z7 ?z8 ?z9 ?z10 ?z11
    (case a1 => k_is); (case l1 => k_is); (case c1 => k_is); (case k1 => k_is); (case a2 => k_is); (case l2 => k_is); (case c2 => k_is); (case k2 => k_is); (case a3 => k_is); (case l3 => k_is); (case c3 => k_is); (case k3 => k_is); (case a4 => k_is); (case l4 => k_is); (case c4 => k_is); (case k4 => k_is); (case a5 => k_is); (case l5 => k_is); (case c5 => k_is); (case k5 => k_is); (case a6 => k_is); (case l6 => k_is); (case c6 => k_is); (case k6 => k_is); (case a7 => k_is); (case l7 => k_is); (case c7 => k_is); (case k7 => k_is); (case a8 => k_is); (case l8 => k_is); (case c8 => k_is); (case k8 => k_is); (case a9 => k_is); (case l9 => k_is); (case c9 => k_is); (case k9 => k_is); (case a10 => k_is); (case l10 => k_is); (case c10 => k_is); (case k10 => k_is); (case a11 => k_is); (case l11 => k_is); (case c11 => k_is); (case k11 => k_is); (case z1 => k_is); (case z2 => k_is); (case z3 => k_is); (case z4 => k_is); (case z5 => k_is); (case z6 => k_is); (case z7 => k_is); (case z8 => k_is); (case z9 => k_is); (case z10 => k_is); (case z11 => k_is)
