import PyProof.Rows.All
import Wide.All
import OpenK.AllK
import Wide.FinOn
import HandS.ForMost
import HandS.Wide
import HandS.EndBits
import HandS.IsInst
import HandS.RaiseMore
import HandS.Zip
import KE.KDictList
import HandS.More
import HandS.ListItems
import HandS.Replace
import HandS.Rev
import HandS.TupSets
import KE.KSortTupG
import KE.LtData
import KE.GoesMore
import KE.GoesEnum
import KE.KDictWalk
import HandS.MapSum
import PySem.Challenge.RW_tranchefall_k53_losses_added
set_option Elab.async false
set_option linter.all false
set_option maxRecDepth 100000
namespace DL
open PySem PySem.Spec PyProof.Rows L2
abbrev St := L2.St
inductive D where
  | non | bl (b : Bool) | int (i : Int) | str (s : Str) | lst (ds : List D) | tup (ds : List D) | dic (kvs : List (Key × D)) | dit (kvs : List (List Key × D)) | obj (n : Str) (fs : List (Str × D)) | al (a : Addr)
inductive T where
  | p (d : D) | lst (ts : List T) | tup (ts : List T) | dic (kvs : List (Key × T)) | dit (kvs : List (List Key × T)) | obj (n : Str) (fs : List (Str × T)) | box (a : Addr) (t : T) | al (a : Addr)
mutual
def T.toD : T → D
  | .p d => d
  | .lst ts => .lst (T.toDs ts)
  | .tup ts => .tup (T.toDs ts)
  | .dic kvs => .dic (T.toKs kvs)
  | .dit kvs => .dit (T.toKt kvs)
  | .obj n fs => .obj n (T.toKf fs)
  | .box _ t => t.toD
  | .al a => .al a
def T.toDs : List T → List D
  | [] => []
  | t :: ts => t.toD :: T.toDs ts
def T.toKs : List (Key × T) → List (Key × D)
  | [] => []
  | (k, t) :: r => (k, t.toD) :: T.toKs r
def T.toKt : List (List Key × T) → List (List Key × D)
  | [] => []
  | (k, t) :: r => (k, t.toD) :: T.toKt r
def T.toKf : List (Str × T) → List (Str × D)
  | [] => []
  | (k, t) :: r => (k, t.toD) :: T.toKf r
end
theorem toDs_map : ∀ ts : List T, T.toDs ts = ts.map T.toD
  | [] => rfl
  | t :: ts => by rw [T.toDs, toDs_map ts]; rfl
theorem toDs_p (ds : List D) : T.toDs (ds.map T.p) = ds := by
  rw [toDs_map, List.map_map]
  show ds.map (fun d => (T.p d).toD) = ds
  simp [T.toD]
def ClsN (K : PySem.W.Frag) (n : Str) (C : Addr) : Prop := PySem.W.nsIn K mainGlobals n = some (some (.ref C))
mutual
def RpD (K : PySem.W.Frag) (G : Hp) : D → V → Prop
  | .non, v => v = .non
  | .bl b, v => v = .bl b
  | .int i, v => v = .int i
  | .str s, v => v = .str s
  | .lst ds, v => ∃ a vs, v = .ref a ∧ Rd G a (.lst vs) ∧ RpDs K G ds vs
  | .tup ds, v => ∃ a vs, v = .ref a ∧ G a = some (.tup vs) ∧ RpDs K G ds vs
  | .dic kvs, v => ∃ a ws, v = .ref a ∧ Rd G a (.dK ws) ∧ RpKs K G kvs ws
  | .dit kvs, v => ∃ a ws, v = .ref a ∧ Rd G a (.dT ws) ∧ RpKt K G kvs ws
  | .obj n fs, v => ∃ a C dx ws, v = .ref a ∧ ClsN K n C ∧ G a = some (.ins C dx ws) ∧ RpKf K G fs ws
  | .al a, v => a ≠ 0 → v = .ref (a - 1)
def RpDs (K : PySem.W.Frag) (G : Hp) : List D → List V → Prop
  | [], vs => vs = []
  | d :: ds, vs => ∃ v r, vs = v :: r ∧ RpD K G d v ∧ RpDs K G ds r
def RpKs (K : PySem.W.Frag) (G : Hp) : List (Key × D) → List (Key × V) → Prop
  | [], vs => vs = []
  | (k, d) :: ds, vs => ∃ v r, vs = (k, v) :: r ∧ RpD K G d v ∧ RpKs K G ds r
def RpKt (K : PySem.W.Frag) (G : Hp) : List (List Key × D) → List (List Key × V) → Prop
  | [], vs => vs = []
  | (k, d) :: ds, vs => ∃ v r, vs = (k, v) :: r ∧ RpD K G d v ∧ RpKt K G ds r
def RpKf (K : PySem.W.Frag) (G : Hp) : List (Str × D) → List (Str × V) → Prop
  | [], vs => vs = []
  | (k, d) :: ds, vs => ∃ v r, vs = (k, v) :: r ∧ RpD K G d v ∧ RpKf K G ds r
end
theorem Same.rd {H H' : Hp} {a : Addr} {u : HO} (e : Same H H') (h : Rd H a u) : Rd H' a u := by
  rcases h with h | ⟨o, h⟩
  · exact .inl (e _ _ h)
  · exact .inr ⟨o, e _ _ h⟩
theorem tup_seq {K : PySem.W.Frag} {G H : Hp} {a : Addr} {xs : List V} (s : Same G H) (h : G a = some (.tup xs)) : SqT K H a xs := .inl (.inl (s a _ h))
theorem tup_sq {K : PySem.W.Frag} {G : Hp} {a : Addr} {xs : List V} (h : G a = some (.tup xs)) : SqT K G a xs := .inl (.inl h)
theorem Same.sqT {K : PySem.W.Frag} {H H' : Hp} {a : Addr} {xs : List V} (e : Same H H') (h : SqT K H a xs) : SqT K H' a xs := by
  rcases h with (h | ⟨o, h⟩) | h
  · exact .inl (.inl (e _ _ h))
  · exact .inl (.inr ⟨o, e _ _ h⟩)
  · exact .inr h
section
variable {K : PySem.W.Frag} {G G' H H' : Hp}
mutual
theorem RpD.mono (e : Same G G') : ∀ (d : D) {v : V}, RpD K G d v → RpD K G' d v
  | .non, _, h => h
  | .bl _, _, h => h
  | .int _, _, h => h
  | .str _, _, h => h
  | .lst ds, _, ⟨a, vs, h1, h2, h3⟩ => ⟨a, vs, h1, Same.rd e h2, RpDs.mono e ds h3⟩
  | .tup ds, _, ⟨a, vs, h1, h2, h3⟩ => ⟨a, vs, h1, e a _ h2, RpDs.mono e ds h3⟩
  | .dic kvs, _, ⟨a, ws, h1, h2, h3⟩ => ⟨a, ws, h1, Same.rd e h2, RpKs.mono e kvs h3⟩
  | .dit kvs, _, ⟨a, ws, h1, h2, h3⟩ => ⟨a, ws, h1, Same.rd e h2, RpKt.mono e kvs h3⟩
  | .obj n fs, _, ⟨a, C, dx, ws, h1, h2, h3, h4⟩ => ⟨a, C, dx, ws, h1, h2, e _ _ h3, RpKf.mono e fs h4⟩
  | .al _, _, h => h
theorem RpDs.mono (e : Same G G') : ∀ (ds : List D) {vs : List V}, RpDs K G ds vs → RpDs K G' ds vs
  | [], _, h => h
  | d :: ds, _, ⟨v, r, h1, h2, h3⟩ => ⟨v, r, h1, RpD.mono e d h2, RpDs.mono e ds h3⟩
theorem RpKs.mono (e : Same G G') : ∀ (ds : List (Key × D)) {vs : List (Key × V)}, RpKs K G ds vs → RpKs K G' ds vs
  | [], _, h => h
  | (k, d) :: ds, _, ⟨v, r, h1, h2, h3⟩ => ⟨v, r, h1, RpD.mono e d h2, RpKs.mono e ds h3⟩
theorem RpKt.mono (e : Same G G') : ∀ (ds : List (List Key × D)) {vs : List (List Key × V)}, RpKt K G ds vs → RpKt K G' ds vs
  | [], _, h => h
  | (k, d) :: ds, _, ⟨v, r, h1, h2, h3⟩ => ⟨v, r, h1, RpD.mono e d h2, RpKt.mono e ds h3⟩
theorem RpKf.mono (e : Same G G') : ∀ (ds : List (Str × D)) {vs : List (Str × V)}, RpKf K G ds vs → RpKf K G' ds vs
  | [], _, h => h
  | (k, d) :: ds, _, ⟨v, r, h1, h2, h3⟩ => ⟨v, r, h1, RpD.mono e d h2, RpKf.mono e ds h3⟩
end
theorem RpDs.len : ∀ {ds : List D} {vs : List V}, RpDs K G ds vs → vs.length = ds.length
  | [], _, h => by rw [show _ = _ from h]; rfl
  | d :: ds, _, ⟨v, r, h1, h2, h3⟩ => by rw [h1, List.length_cons, List.length_cons, RpDs.len h3]
theorem RpDs.get : ∀ {ds : List D} {vs : List V} {i : Nat} {d : D}, RpDs K G ds vs → ds[i]? = some d → ∃ v, vs[i]? = some v ∧ RpD K G d v
  | [], _, _, _, _, e => by simp at e
  | d :: ds, _, 0, d', ⟨v, r, h1, h2, h3⟩, e => by
    simp at e; subst e; subst h1; exact ⟨v, rfl, h2⟩
  | d :: ds, _, i + 1, d', ⟨v, r, h1, h2, h3⟩, e => by
    subst h1
    obtain ⟨u, h4, h5⟩ := RpDs.get (i := i) h3 (by simpa using e)
    exact ⟨u, by simpa using h4, h5⟩
theorem RpDs.append : ∀ {ds es : List D} {vs ws : List V}, RpDs K G ds vs → RpDs K G es ws → RpDs K G (ds ++ es) (vs ++ ws)
  | [], _, _, _, h, h' => by rw [show _ = _ from h]; exact h'
  | d :: ds, _, _, _, ⟨v, r, h1, h2, h3⟩, h' => by
    subst h1
    exact ⟨v, r ++ _, rfl, h2, RpDs.append h3 h'⟩
theorem RpDs.take : ∀ {ds : List D} {vs : List V} (n : Nat), RpDs K G ds vs → RpDs K G (ds.take n) (vs.take n)
  | ds, vs, 0, _ => by simp [RpDs]
  | [], _, n + 1, h => by rw [show _ = _ from h]; simp [RpDs]
  | d :: ds, _, n + 1, ⟨v, r, h1, h2, h3⟩ => by
    subst h1
    exact ⟨v, r.take n, rfl, h2, RpDs.take n h3⟩
theorem RpDs.drop : ∀ {ds : List D} {vs : List V} (n : Nat), RpDs K G ds vs → RpDs K G (ds.drop n) (vs.drop n)
  | ds, vs, 0, h => by simpa using h
  | [], _, n + 1, h => by rw [show _ = _ from h]; simp [RpDs]
  | d :: ds, _, n + 1, ⟨v, r, h1, h2, h3⟩ => by
    subst h1
    simpa using RpDs.drop n h3
mutual
def Rp (K : PySem.W.Frag) (G H : Hp) : T → V → List Addr → Prop
  | .p d, v, o => RpD K G d v ∧ o = []
  | .lst ts, v, o => ∃ a vs o', v = .ref a ∧ H a = some (.lst vs) ∧ RpTs K G H ts vs o' ∧ o = a :: o'
  | .tup ts, v, o => ∃ a vs, v = .ref a ∧ G a = some (.tup vs) ∧ RpTs K G H ts vs o
  | .dic kvs, v, o => ∃ a ws o', v = .ref a ∧ H a = some (.dK ws) ∧ RpTk K G H kvs ws o' ∧ o = a :: o'
  | .dit kvs, v, o => ∃ a ws o', v = .ref a ∧ H a = some (.dT ws) ∧ RpTt K G H kvs ws o' ∧ o = a :: o'
  | .obj n fs, v, o => ∃ a C dx ws o', v = .ref a ∧ ClsN K n C ∧ H a = some (.ins C dx ws) ∧ RpTf K G H fs ws o' ∧ o = a :: o'
  | .box a t, v, o => v = .ref a ∧ Rp K G H t v o
  | .al a, v, o => (a ≠ 0 → v = .ref (a - 1)) ∧ o = []
def RpTs (K : PySem.W.Frag) (G H : Hp) : List T → List V → List Addr → Prop
  | [], vs, o => vs = [] ∧ o = []
  | t :: ts, vs, o => ∃ v r o1 o2, vs = v :: r ∧ Rp K G H t v o1 ∧ RpTs K G H ts r o2 ∧ o = o1 ++ o2
def RpTk (K : PySem.W.Frag) (G H : Hp) : List (Key × T) → List (Key × V) → List Addr → Prop
  | [], vs, o => vs = [] ∧ o = []
  | (k, t) :: ts, vs, o => ∃ v r o1 o2, vs = (k, v) :: r ∧ Rp K G H t v o1 ∧ RpTk K G H ts r o2 ∧ o = o1 ++ o2
def RpTt (K : PySem.W.Frag) (G H : Hp) : List (List Key × T) → List (List Key × V) → List Addr → Prop
  | [], vs, o => vs = [] ∧ o = []
  | (k, t) :: ts, vs, o => ∃ v r o1 o2, vs = (k, v) :: r ∧ Rp K G H t v o1 ∧ RpTt K G H ts r o2 ∧ o = o1 ++ o2
def RpTf (K : PySem.W.Frag) (G H : Hp) : List (Str × T) → List (Str × V) → List Addr → Prop
  | [], vs, o => vs = [] ∧ o = []
  | (k, t) :: ts, vs, o => ∃ v r o1 o2, vs = (k, v) :: r ∧ Rp K G H t v o1 ∧ RpTf K G H ts r o2 ∧ o = o1 ++ o2
end
mutual
theorem Rp.mono (e : Same G G') : ∀ (t : T) {v : V} {o : List Addr}, (∀ a ∈ o, H' a = H a) → Rp K G H t v o → Rp K G' H' t v o
  | .p d, _, _, _, ⟨h1, h2⟩ => ⟨RpD.mono e d h1, h2⟩
  | .lst ts, _, _, k, ⟨a, vs, o', h1, h2, h3, h4⟩ => ⟨a, vs, o', h1, by rw [k a (by rw [h4]; simp)]; exact h2, RpTs.mono e ts (fun b hb => k b (by rw [h4]; simp [hb])) h3, h4⟩
  | .tup ts, _, _, k, ⟨a, vs, h1, h2, h3⟩ => ⟨a, vs, h1, e a _ h2, RpTs.mono e ts k h3⟩
  | .dic kvs, _, _, k, ⟨a, ws, o', h1, h2, h3, h4⟩ => ⟨a, ws, o', h1, by rw [k a (by rw [h4]; simp)]; exact h2, RpTk.mono e kvs (fun b hb => k b (by rw [h4]; simp [hb])) h3, h4⟩
  | .dit kvs, _, _, k, ⟨a, ws, o', h1, h2, h3, h4⟩ => ⟨a, ws, o', h1, by rw [k a (by rw [h4]; simp)]; exact h2, RpTt.mono e kvs (fun b hb => k b (by rw [h4]; simp [hb])) h3, h4⟩
  | .obj n fs, _, _, k, ⟨a, C, dx, ws, o', h1, h0, h2, h3, h4⟩ => ⟨a, C, dx, ws, o', h1, h0, by rw [k a (by rw [h4]; simp)]; exact h2, RpTf.mono e fs (fun b hb => k b (by rw [h4]; simp [hb])) h3, h4⟩
  | .box a t, _, _, k, ⟨h1, h2⟩ => ⟨h1, Rp.mono e t k h2⟩
  | .al a, _, _, _, h => h
theorem RpTs.mono (e : Same G G') : ∀ (ts : List T) {vs : List V} {o : List Addr}, (∀ a ∈ o, H' a = H a) → RpTs K G H ts vs o → RpTs K G' H' ts vs o
  | [], _, _, _, h => h
  | t :: ts, _, _, k, ⟨v, r, o1, o2, h1, h2, h3, h4⟩ => ⟨v, r, o1, o2, h1, Rp.mono e t (fun b hb => k b (by rw [h4]; simp [hb])) h2, RpTs.mono e ts (fun b hb => k b (by rw [h4]; simp [hb])) h3, h4⟩
theorem RpTk.mono (e : Same G G') : ∀ (ts : List (Key × T)) {vs : List (Key × V)} {o : List Addr}, (∀ a ∈ o, H' a = H a) → RpTk K G H ts vs o → RpTk K G' H' ts vs o
  | [], _, _, _, h => h
  | (_, t) :: ts, _, _, k, ⟨v, r, o1, o2, h1, h2, h3, h4⟩ => ⟨v, r, o1, o2, h1, Rp.mono e t (fun b hb => k b (by rw [h4]; simp [hb])) h2, RpTk.mono e ts (fun b hb => k b (by rw [h4]; simp [hb])) h3, h4⟩
theorem RpTt.mono (e : Same G G') : ∀ (ts : List (List Key × T)) {vs : List (List Key × V)} {o : List Addr}, (∀ a ∈ o, H' a = H a) → RpTt K G H ts vs o → RpTt K G' H' ts vs o
  | [], _, _, _, h => h
  | (_, t) :: ts, _, _, k, ⟨v, r, o1, o2, h1, h2, h3, h4⟩ => ⟨v, r, o1, o2, h1, Rp.mono e t (fun b hb => k b (by rw [h4]; simp [hb])) h2, RpTt.mono e ts (fun b hb => k b (by rw [h4]; simp [hb])) h3, h4⟩
theorem RpTf.mono (e : Same G G') : ∀ (ts : List (Str × T)) {vs : List (Str × V)} {o : List Addr}, (∀ a ∈ o, H' a = H a) → RpTf K G H ts vs o → RpTf K G' H' ts vs o
  | [], _, _, _, h => h
  | (_, t) :: ts, _, _, k, ⟨v, r, o1, o2, h1, h2, h3, h4⟩ => ⟨v, r, o1, o2, h1, Rp.mono e t (fun b hb => k b (by rw [h4]; simp [hb])) h2, RpTf.mono e ts (fun b hb => k b (by rw [h4]; simp [hb])) h3, h4⟩
end
mutual
theorem Rp.flat {o : List Addr} (e : Same G G') (k : ∀ a ∈ o, G' a = H a) : ∀ (t : T) {v : V}, Rp K G H t v o → RpD K G' t.toD v
  | .p d, _, ⟨h1, h2⟩ => RpD.mono e d h1
  | .lst ts, _, ⟨a, vs, o', h1, h2, h3, h4⟩ => ⟨a, vs, h1, .inl (by rw [k a (by rw [h4]; simp)]; exact h2), RpTs.flat e (fun b hb => k b (by rw [h4]; simp [hb])) ts h3⟩
  | .tup ts, _, ⟨a, vs, h1, h2, h3⟩ => ⟨a, vs, h1, e a _ h2, RpTs.flat e k ts h3⟩
  | .dic kvs, _, ⟨a, ws, o', h1, h2, h3, h4⟩ => ⟨a, ws, h1, .inl (by rw [k a (by rw [h4]; simp)]; exact h2), RpTk.flat e (fun b hb => k b (by rw [h4]; simp [hb])) kvs h3⟩
  | .dit kvs, _, ⟨a, ws, o', h1, h2, h3, h4⟩ => ⟨a, ws, h1, .inl (by rw [k a (by rw [h4]; simp)]; exact h2), RpTt.flat e (fun b hb => k b (by rw [h4]; simp [hb])) kvs h3⟩
  | .obj n fs, _, ⟨a, C, dx, ws, o', h1, h0, h2, h3, h4⟩ => ⟨a, C, dx, ws, h1, h0, (by rw [k a (by rw [h4]; simp)]; exact h2), RpTf.flat e (fun b hb => k b (by rw [h4]; simp [hb])) fs h3⟩
  | .box a t, _, ⟨h1, h2⟩ => Rp.flat e k t h2
  | .al a, _, ⟨h1, h2⟩ => h1
theorem RpTs.flat {o : List Addr} (e : Same G G') (k : ∀ a ∈ o, G' a = H a) : ∀ (ts : List T) {vs : List V}, RpTs K G H ts vs o → RpDs K G' (T.toDs ts) vs
  | [], _, ⟨h, _⟩ => h
  | t :: ts, _, ⟨v, r, o1, o2, h1, h2, h3, h4⟩ => ⟨v, r, h1, Rp.flat e (fun b hb => k b (by rw [h4]; simp [hb])) t h2, RpTs.flat e (fun b hb => k b (by rw [h4]; simp [hb])) ts h3⟩
theorem RpTk.flat {o : List Addr} (e : Same G G') (k : ∀ a ∈ o, G' a = H a) : ∀ (ts : List (Key × T)) {vs : List (Key × V)}, RpTk K G H ts vs o → RpKs K G' (T.toKs ts) vs
  | [], _, ⟨h, _⟩ => h
  | (_, t) :: ts, _, ⟨v, r, o1, o2, h1, h2, h3, h4⟩ => ⟨v, r, h1, Rp.flat e (fun b hb => k b (by rw [h4]; simp [hb])) t h2, RpTk.flat e (fun b hb => k b (by rw [h4]; simp [hb])) ts h3⟩
theorem RpTt.flat {o : List Addr} (e : Same G G') (k : ∀ a ∈ o, G' a = H a) : ∀ (ts : List (List Key × T)) {vs : List (List Key × V)}, RpTt K G H ts vs o → RpKt K G' (T.toKt ts) vs
  | [], _, ⟨h, _⟩ => h
  | (_, t) :: ts, _, ⟨v, r, o1, o2, h1, h2, h3, h4⟩ => ⟨v, r, h1, Rp.flat e (fun b hb => k b (by rw [h4]; simp [hb])) t h2, RpTt.flat e (fun b hb => k b (by rw [h4]; simp [hb])) ts h3⟩
theorem RpTf.flat {o : List Addr} (e : Same G G') (k : ∀ a ∈ o, G' a = H a) : ∀ (ts : List (Str × T)) {vs : List (Str × V)}, RpTf K G H ts vs o → RpKf K G' (T.toKf ts) vs
  | [], _, ⟨h, _⟩ => h
  | (_, t) :: ts, _, ⟨v, r, o1, o2, h1, h2, h3, h4⟩ => ⟨v, r, h1, Rp.flat e (fun b hb => k b (by rw [h4]; simp [hb])) t h2, RpTf.flat e (fun b hb => k b (by rw [h4]; simp [hb])) ts h3⟩
end
mutual
theorem Rp.there : ∀ (t : T) {v : V} {o : List Addr}, Rp K G H t v o → ∀ a ∈ o, ∃ u, H a = some u ∧ ∀ xs, u ≠ .tup xs
  | .p d, _, _, ⟨h1, h2⟩, b, hb => by rw [h2] at hb; cases hb
  | .lst ts, _, _, ⟨a, vs, o', h1, h2, h3, h4⟩, b, hb => by
    rw [h4] at hb
    rcases List.mem_cons.mp hb with e | hb
    · rw [e]; exact ⟨_, h2, fun xs z => by cases z⟩
    · exact RpTs.there ts h3 b hb
  | .tup ts, _, _, ⟨a, vs, h1, h2, h3⟩, b, hb => RpTs.there ts h3 b hb
  | .dic kvs, _, _, ⟨a, ws, o', h1, h2, h3, h4⟩, b, hb => by
    rw [h4] at hb
    rcases List.mem_cons.mp hb with e | hb
    · rw [e]; exact ⟨_, h2, fun xs z => by cases z⟩
    · exact RpTk.there kvs h3 b hb
  | .dit kvs, _, _, ⟨a, ws, o', h1, h2, h3, h4⟩, b, hb => by
    rw [h4] at hb
    rcases List.mem_cons.mp hb with e | hb
    · rw [e]; exact ⟨_, h2, fun xs z => by cases z⟩
    · exact RpTt.there kvs h3 b hb
  | .obj n kvs, _, _, ⟨a, C, dx, ws, o', h1, h0, h2, h3, h4⟩, b, hb => by
    rw [h4] at hb
    rcases List.mem_cons.mp hb with e | hb
    · rw [e]; exact ⟨_, h2, fun xs z => by cases z⟩
    · exact RpTf.there kvs h3 b hb
  | .box a t, _, _, ⟨h1, h2⟩, b, hb => Rp.there t h2 b hb
  | .al a, _, _, ⟨h1, h2⟩, b, hb => by rw [h2] at hb; cases hb
theorem RpTs.there : ∀ (ts : List T) {vs : List V} {o : List Addr}, RpTs K G H ts vs o → ∀ a ∈ o, ∃ u, H a = some u ∧ ∀ xs, u ≠ .tup xs
  | [], _, _, ⟨_, h⟩, b, hb => by rw [h] at hb; cases hb
  | t :: ts, _, _, ⟨v, r, o1, o2, h1, h2, h3, h4⟩, b, hb => by
    rw [h4] at hb
    rcases List.mem_append.mp hb with hb | hb
    · exact Rp.there t h2 b hb
    · exact RpTs.there ts h3 b hb
theorem RpTk.there : ∀ (ts : List (Key × T)) {vs : List (Key × V)} {o : List Addr}, RpTk K G H ts vs o → ∀ a ∈ o, ∃ u, H a = some u ∧ ∀ xs, u ≠ .tup xs
  | [], _, _, ⟨_, h⟩, b, hb => by rw [h] at hb; cases hb
  | (_, t) :: ts, _, _, ⟨v, r, o1, o2, h1, h2, h3, h4⟩, b, hb => by
    rw [h4] at hb
    rcases List.mem_append.mp hb with hb | hb
    · exact Rp.there t h2 b hb
    · exact RpTk.there ts h3 b hb
theorem RpTt.there : ∀ (ts : List (List Key × T)) {vs : List (List Key × V)} {o : List Addr}, RpTt K G H ts vs o → ∀ a ∈ o, ∃ u, H a = some u ∧ ∀ xs, u ≠ .tup xs
  | [], _, _, ⟨_, h⟩, b, hb => by rw [h] at hb; cases hb
  | (_, t) :: ts, _, _, ⟨v, r, o1, o2, h1, h2, h3, h4⟩, b, hb => by
    rw [h4] at hb
    rcases List.mem_append.mp hb with hb | hb
    · exact Rp.there t h2 b hb
    · exact RpTt.there ts h3 b hb
theorem RpTf.there : ∀ (ts : List (Str × T)) {vs : List (Str × V)} {o : List Addr}, RpTf K G H ts vs o → ∀ a ∈ o, ∃ u, H a = some u ∧ ∀ xs, u ≠ .tup xs
  | [], _, _, ⟨_, h⟩, b, hb => by rw [h] at hb; cases hb
  | (_, t) :: ts, _, _, ⟨v, r, o1, o2, h1, h2, h3, h4⟩, b, hb => by
    rw [h4] at hb
    rcases List.mem_append.mp hb with hb | hb
    · exact Rp.there t h2 b hb
    · exact RpTf.there ts h3 b hb
end
theorem RpTs.len : ∀ {ts : List T} {vs : List V} {o : List Addr}, RpTs K G H ts vs o → vs.length = ts.length
  | [], _, _, ⟨h, _⟩ => by rw [h]; rfl
  | t :: ts, _, _, ⟨v, r, o1, o2, h1, h2, h3, h4⟩ => by rw [h1, List.length_cons, List.length_cons, RpTs.len h3]
theorem RpTs.append : ∀ {ts us : List T} {vs ws : List V} {o o' : List Addr}, RpTs K G H ts vs o → RpTs K G H us ws o' → RpTs K G H (ts ++ us) (vs ++ ws) (o ++ o')
  | [], _, _, _, _, _, ⟨h, h2⟩, h' => by rw [h, h2]; exact h'
  | t :: ts, _, _, _, _, _, ⟨v, r, o1, o2, h1, h2, h3, h4⟩, h' => by
    subst h1; subst h4
    exact ⟨v, r ++ _, o1, o2 ++ _, rfl, h2, RpTs.append h3 h', by simp⟩
theorem rpTs_p : ∀ {ds : List D} {vs : List V}, RpDs K G ds vs → RpTs K G H (ds.map T.p) vs []
  | [], _, h => ⟨h, rfl⟩
  | d :: ds, _, ⟨v, r, h1, h2, h3⟩ => ⟨v, r, [], [], h1, ⟨h2, rfl⟩, rpTs_p h3, rfl⟩
abbrev Env := List (Option T)
def RpE (K : PySem.W.Frag) (G H : Hp) : Env → St → List Addr → Prop
  | [], σ, o => σ = [] ∧ o = []
  | none :: es, σ, o => ∃ x r, σ = x :: r ∧ RpE K G H es r o
  | some t :: es, σ, o => ∃ v r o1 o2, σ = some v :: r ∧ Rp K G H t v o1 ∧ RpE K G H es r o2 ∧ o = o1 ++ o2
theorem RpE.mono (e : Same G G') : ∀ (es : Env) {σ : St} {o : List Addr}, (∀ a ∈ o, H' a = H a) → RpE K G H es σ o → RpE K G' H' es σ o
  | [], _, _, _, h => h
  | none :: es, _, _, k, ⟨x, r, h1, h2⟩ => ⟨x, r, h1, RpE.mono e es k h2⟩
  | some t :: es, _, _, k, ⟨v, r, o1, o2, h1, h2, h3, h4⟩ => ⟨v, r, o1, o2, h1, Rp.mono e t (fun b hb => k b (by rw [h4]; simp [hb])) h2, RpE.mono e es (fun b hb => k b (by rw [h4]; simp [hb])) h3, h4⟩
theorem RpE.there : ∀ (es : Env) {σ : St} {o : List Addr}, RpE K G H es σ o → ∀ a ∈ o, ∃ u, H a = some u ∧ ∀ xs, u ≠ .tup xs
  | [], _, _, ⟨_, h⟩, b, hb => by rw [h] at hb; cases hb
  | none :: es, _, _, ⟨x, r, h1, h2⟩, b, hb => RpE.there es h2 b hb
  | some t :: es, _, _, ⟨v, r, o1, o2, h1, h2, h3, h4⟩, b, hb => by
    rw [h4] at hb
    rcases List.mem_append.mp hb with hb | hb
    · exact Rp.there t h2 b hb
    · exact RpE.there es h3 b hb
theorem RpE.len : ∀ {es : Env} {σ : St} {o : List Addr}, RpE K G H es σ o → σ.length = es.length
  | [], _, _, ⟨h, _⟩ => by rw [h]; rfl
  | none :: es, _, _, ⟨x, r, h1, h2⟩ => by rw [h1, List.length_cons, List.length_cons, RpE.len h2]
  | some t :: es, _, _, ⟨v, r, o1, o2, h1, h2, h3, h4⟩ => by rw [h1, List.length_cons, List.length_cons, RpE.len h3]
theorem perm_mid {α : Type} (a b c : List α) : (a ++ (b ++ c)).Perm (b ++ (a ++ c)) := by
  rw [← List.append_assoc, ← List.append_assoc]
  exact List.Perm.append_right _ List.perm_append_comm
theorem RpE.take : ∀ {es : Env} {σ : St} {o : List Addr} {i : Nat} {t : T}, RpE K G H es σ o → es[i]? = some (some t) →
    ∃ v o1 o2, σ[i]? = some (some v) ∧ Rp K G H t v o1 ∧ RpE K G H (es.set i none) σ o2 ∧ o.Perm (o1 ++ o2)
  | [], _, _, _, _, _, e => by simp at e
  | none :: es, _, _, 0, _, _, e => by simp at e
  | none :: es, _, _, i + 1, t, ⟨x, r, h1, h2⟩, e => by
    subst h1
    obtain ⟨v, o1, o2, g1, g2, g3, g4⟩ := RpE.take (i := i) h2 (by simpa using e)
    exact ⟨v, o1, o2, by simpa using g1, g2, ⟨x, r, rfl, g3⟩, g4⟩
  | some u :: es, _, _, 0, t, ⟨v, r, o1, o2, h1, h2, h3, h4⟩, e => by
    subst h1
    simp at e; subst e
    exact ⟨v, o1, o2, rfl, h2, ⟨_, _, rfl, h3⟩, by rw [h4]⟩
  | some u :: es, _, _, i + 1, t, ⟨v, r, o1, o2, h1, h2, h3, h4⟩, e => by
    subst h1
    obtain ⟨w, p1, p2, g1, g2, g3, g4⟩ := RpE.take (i := i) h3 (by simpa using e)
    refine ⟨w, p1, o1 ++ p2, by simpa using g1, g2, ⟨v, r, o1, p2, rfl, h2, g3, rfl⟩, ?_⟩
    rw [h4]
    exact (List.Perm.append_left o1 g4).trans (perm_mid _ _ _)
theorem RpE.put : ∀ {es : Env} {σ : St} {o : List Addr} {i : Nat} {t : T} {v : V} {o1 : List Addr}, RpE K G H es σ o → i < es.length → (∀ u, es[i]? ≠ some (some u)) → Rp K G H t v o1 →
    ∃ o2, RpE K G H (es.set i (some t)) (σ.set i (some v)) o2 ∧ o2.Perm (o1 ++ o)
  | [], _, _, _, _, _, _, _, hl, _, _ => by simp at hl
  | none :: es, _, o, 0, t, v, o1, ⟨x, r, h1, h2⟩, _, _, h => by
    subst h1
    exact ⟨o1 ++ o, ⟨v, r, o1, o, rfl, h, h2, rfl⟩, .refl _⟩
  | none :: es, _, o, i + 1, t, v, o1, ⟨x, r, h1, h2⟩, hl, hn, h => by
    subst h1
    obtain ⟨o2, g1, g2⟩ := RpE.put (i := i) h2 (by simpa using hl) (fun u z => hn u (by simpa using z)) h
    exact ⟨o2, ⟨x, _, rfl, g1⟩, g2⟩
  | some u :: es, _, _, 0, t, v, o1, _, _, hn, _ => absurd rfl (hn u)
  | some u :: es, _, _, i + 1, t, v, o1, ⟨w, r, p1, p2, h1, h2, h3, h4⟩, hl, hn, h => by
    subst h1
    obtain ⟨o2, g1, g2⟩ := RpE.put (i := i) h3 (by simpa using hl) (fun u z => hn u (by simpa using z)) h
    refine ⟨p1 ++ o2, ⟨w, _, p1, o2, rfl, h2, g1, rfl⟩, ?_⟩
    rw [h4]
    exact (List.Perm.append_left p1 g2).trans (perm_mid _ _ _)
theorem RpE.drop {es : Env} {σ : St} {o : List Addr} (i : Nat) (h : RpE K G H es σ o) : ∃ o1 o2, RpE K G H (es.set i none) σ o2 ∧ o.Perm (o1 ++ o2) := by
  by_cases hi : ∃ t, es[i]? = some (some t)
  · obtain ⟨t, ht⟩ := hi
    obtain ⟨v, o1, o2, g1, g2, g3, g4⟩ := h.take ht
    exact ⟨o1, o2, g3, g4⟩
  · refine ⟨[], o, ?_, .refl _⟩
    by_cases hl : i < es.length
    · have e : es[i]? = some none := by
        cases q : es[i]? with
        | none => rw [List.getElem?_eq_none_iff] at q; omega
        | some x =>
          cases x with
          | none => rfl
          | some t => exact absurd ⟨t, q⟩ hi
      have : es.set i none = es := by
        obtain ⟨h1, e2⟩ := List.getElem?_eq_some_iff.mp e
        rw [← e2]
        exact List.set_getElem_self h1
      rw [this]; exact h
    · rw [List.set_eq_of_length_le (by omega)]; exact h
end
end DL
set_option Elab.async false
set_option linter.all false
set_option maxRecDepth 100000
namespace DL
open PySem PySem.Spec PyProof.Rows L2
structure St0 (K : PySem.W.Frag) (G0 H0 : Hp) (W : List (T × V)) (G H : Hp) (ts : List T) (vs : List V) (env : Env) (σ : St) (ot oe : List Addr) : Prop where
  tmp : RpTs K G H ts vs ot
  env : RpE K G H env σ oe
  nd : (ot ++ oe).Nodup
  fr : ∀ a ∈ ot ++ oe, G a = none ∧ H0 a = none
  g0 : Same G0 G
  gh : Same G H
  h0 : Same H0 H
  nw : ∀ a o, G a = some o → G0 a ≠ none ∨ H0 a = none ∨ ∃ xs, o = .tup xs
  vw : ∀ q ∈ W, ∃ o, Rp K G H q.1 q.2 o
def OkS (K : PySem.W.Frag) (G0 H0 : Hp) (W : List (T × V)) (H : Hp) (ts : List T) (vs : List V) (env : Env) (σ : St) : Prop :=
  ∃ G ot oe, St0 K G0 H0 W G H ts vs env σ ot oe
section
variable {K : PySem.W.Frag} {G0 H0 H : Hp} {W : List (T × V)} {ts : List T} {vs : List V} {env : Env} {σ : St} {t : T} {v : V}
theorem OkS.scal {z : D} {u : V} (S : OkS K G0 H0 W H ts vs env σ) (h : ∀ G, RpD K G z u) : OkS K G0 H0 W H (.p z :: ts) (u :: vs) env σ := by
  obtain ⟨G, ot, oe, s⟩ := S
  exact ⟨G, ot, oe, ⟨u, vs, [], ot, rfl, ⟨h G, rfl⟩, s.tmp, rfl⟩, s.env, s.nd, s.fr, s.g0, s.gh, s.h0, s.nw, s.vw⟩
theorem OkS.pop (S : OkS K G0 H0 W H (t :: ts) (v :: vs) env σ) : OkS K G0 H0 W H ts vs env σ := by
  obtain ⟨G, ot, oe, s⟩ := S
  obtain ⟨u, r, o1, o2, h1, h2, h3, h4⟩ := s.tmp
  cases h1
  subst h4
  have nd := s.nd
  rw [List.append_assoc] at nd
  exact ⟨G, o2, oe, h3, s.env, (List.nodup_append.mp nd).2.1, fun a ha => s.fr a (by rw [List.append_assoc]; exact List.mem_append_right _ ha), s.g0, s.gh, s.h0, s.nw, s.vw⟩
theorem OkS.unview {q : T × V} (S : OkS K G0 H0 (q :: W) H ts vs env σ) : OkS K G0 H0 W H ts vs env σ := by
  obtain ⟨G, ot, oe, s⟩ := S
  exact ⟨G, ot, oe, s.tmp, s.env, s.nd, s.fr, s.g0, s.gh, s.h0, s.nw, fun q hq => s.vw q (List.mem_cons_of_mem _ hq)⟩
theorem OkS.toview (S : OkS K G0 H0 W H (t :: ts) (v :: vs) env σ) : OkS K G0 H0 ((t, v) :: W) H ts vs env σ := by
  have S' := S.pop
  obtain ⟨G, ot, oe, s⟩ := S
  obtain ⟨u, r, o1, o2, h1, h2, h3, h4⟩ := s.tmp
  cases h1
  subst h4
  have nd := s.nd
  rw [List.append_assoc] at nd
  exact ⟨G, o2, oe, h3, s.env, (List.nodup_append.mp nd).2.1, fun a ha => s.fr a (by rw [List.append_assoc]; exact List.mem_append_right _ ha), s.g0, s.gh, s.h0, s.nw, fun q hq => by
    rcases List.mem_cons.mp hq with e | hq
    · subst e; exact ⟨o1, h2⟩
    · exact s.vw q hq⟩
theorem OkS.ofview {d : D} (S : OkS K G0 H0 ((.p d, v) :: W) H ts vs env σ) : OkS K G0 H0 W H (.p d :: ts) (v :: vs) env σ := by
  obtain ⟨G, ot, oe, s⟩ := S
  obtain ⟨o, h, ho⟩ := s.vw (.p d, v) (by simp)
  exact ⟨G, ot, oe, ⟨v, vs, [], ot, rfl, ⟨h, rfl⟩, s.tmp, rfl⟩, s.env, s.nd, s.fr, s.g0, s.gh, s.h0, s.nw, fun q hq => s.vw q (List.mem_cons_of_mem _ hq)⟩
theorem OkS.see (S : OkS K G0 H0 W H ts vs env σ) {q : T × V} (hq : q ∈ W) : RpD K H q.1.toD q.2 := by
  obtain ⟨G, ot, oe, s⟩ := S
  obtain ⟨o, h⟩ := s.vw q hq
  exact h.flat s.gh (fun a _ => rfl) _
theorem OkS.top (S : OkS K G0 H0 W H (t :: ts) (v :: vs) env σ) : RpD K H t.toD v := S.toview.see (by simp : (t, v) ∈ _)
theorem OkS.get {i : Nat} (S : OkS K G0 H0 W H ts vs env σ) (e : env[i]? = some (some t)) : ∃ v, σ[i]? = some (some v) ∧ OkS K G0 H0 W H (t :: ts) (v :: vs) (env.set i none) σ := by
  obtain ⟨G, ot, oe, s⟩ := S
  obtain ⟨v, o1, o2, h1, h2, h3, h4⟩ := s.env.take e
  have pm : (ot ++ oe).Perm ((o1 ++ ot) ++ o2) := by
    rw [List.append_assoc]
    exact (List.Perm.append_left ot h4).trans (perm_mid _ _ _)
  exact ⟨v, h1, G, o1 ++ ot, o2, ⟨v, vs, o1, ot, rfl, h2, s.tmp, rfl⟩, h3, pm.nodup_iff.mp s.nd, fun a ha => s.fr a (pm.mem_iff.mpr ha), s.g0, s.gh, s.h0, s.nw, s.vw⟩
theorem OkS.look {i : Nat} (S : OkS K G0 H0 W H ts vs env σ) (e : env[i]? = some (some t)) : ∃ v, σ[i]? = some (some v) ∧ OkS K G0 H0 ((t, v) :: W) H ts vs env σ := by
  obtain ⟨G, ot, oe, s⟩ := S
  obtain ⟨v, o1, o2, h1, h2, h3, h4⟩ := s.env.take e
  exact ⟨v, h1, G, ot, oe, s.tmp, s.env, s.nd, s.fr, s.g0, s.gh, s.h0, s.nw, fun q hq => by
    rcases List.mem_cons.mp hq with e | hq
    · subst e; exact ⟨o1, h2⟩
    · exact s.vw q hq⟩
theorem OkS.put {i : Nat} (S : OkS K G0 H0 W H (t :: ts) (v :: vs) env σ) (hl : i < env.length) : OkS K G0 H0 W H ts vs (env.set i (some t)) (σ.set i (some v)) := by
  obtain ⟨G, ot, oe, s⟩ := S
  obtain ⟨u, r, o1, o2, h1, h2, h3, h4⟩ := s.tmp
  cases h1
  subst h4
  obtain ⟨p1, p2, g1, g2⟩ := s.env.drop i
  have hn : ∀ u, (env.set i none)[i]? ≠ some (some u) := fun u z => by
    rw [List.getElem?_set_self hl] at z; cases z
  obtain ⟨p3, g3, g4⟩ := g1.put (i := i) (t := t) (v := v) (by simpa using hl) hn h2
  have g5 : (env.set i none).set i (some t) = env.set i (some t) := by simp
  rw [g5] at g3
  have pm : (o1 ++ o2 ++ oe).Perm (p1 ++ (o2 ++ p3)) := by
    have e1 : (o1 ++ o2 ++ oe).Perm (o1 ++ o2 ++ (p1 ++ p2)) := List.Perm.append_left _ g2
    have e2 : (p1 ++ (o2 ++ p3)).Perm (p1 ++ (o2 ++ (o1 ++ p2))) := List.Perm.append_left _ (List.Perm.append_left _ g4)
    refine e1.trans (List.Perm.trans ?_ e2.symm)
    have e3 : (o1 ++ o2 ++ (p1 ++ p2)).Perm (p1 ++ ((o1 ++ o2) ++ p2)) := perm_mid _ _ _
    refine e3.trans (List.Perm.append_left _ ?_)
    rw [List.append_assoc]
    exact perm_mid _ _ _
  have nd2 := pm.nodup_iff.mp s.nd
  exact ⟨G, o2, p3, h3, g3, (List.nodup_append.mp nd2).2.1, fun a ha => s.fr a (pm.mem_iff.mpr (List.mem_append_right _ ha)), s.g0, s.gh, s.h0, s.nw, s.vw⟩
theorem OkS.frz (S : OkS K G0 H0 W H (t :: ts) (v :: vs) env σ) : OkS K G0 H0 W H (.p t.toD :: ts) (v :: vs) env σ := by
  obtain ⟨G, ot, oe, s⟩ := S
  obtain ⟨u, r, o1, o2, h1, h2, h3, h4⟩ := s.tmp
  cases h1
  subst h4
  have nd := s.nd
  rw [List.append_assoc] at nd
  have gn : ∀ a ∈ o1, G a = none := fun a ha => (s.fr a (List.mem_append_left _ (List.mem_append_left _ ha))).1
  have sm : Same G (fun a => if a ∈ o1 then H a else G a) := fun b u e => by
    show (if b ∈ o1 then H b else G b) = _
    by_cases hb : b ∈ o1
    · rw [gn b hb] at e; cases e
    · rw [if_neg hb]; exact e
  refine ⟨fun a => if a ∈ o1 then H a else G a, o2, oe, ⟨v, vs, [], o2, rfl, ⟨h2.flat sm (fun a ha => if_pos ha) _, rfl⟩, h3.mono sm _ (fun _ _ => rfl), rfl⟩, s.env.mono sm _ (fun _ _ => rfl), (List.nodup_append.mp nd).2.1, fun a ha => ?_, ?_, fun b u e => ?_, s.h0, fun b u e => ?_, fun q hq => ?_⟩
  · have hx := s.fr a (by rw [List.append_assoc]; exact List.mem_append_right _ ha)
    refine ⟨?_, hx.2⟩
    show (if a ∈ o1 then H a else G a) = none
    have : a ∉ o1 := fun z => (List.nodup_append.mp nd).2.2 a z a ha rfl
    rw [if_neg this]; exact hx.1
  · intro b u e; exact sm b u (s.g0 b u e)
  · have e' : (if b ∈ o1 then H b else G b) = some u := e
    by_cases hb : b ∈ o1
    · rw [if_pos hb] at e'; exact e'
    · rw [if_neg hb] at e'; exact s.gh b u e'
  · have e' : (if b ∈ o1 then H b else G b) = some u := e
    by_cases hb : b ∈ o1
    · exact .inr (.inl (s.fr b (List.mem_append_left _ (List.mem_append_left _ hb))).2)
    · rw [if_neg hb] at e'; exact s.nw b u e'
  · obtain ⟨o, h⟩ := s.vw q hq
    exact ⟨o, h.mono sm _ fun _ _ => rfl⟩
theorem RpTs.mid {G : Hp} : ∀ {us : List T} {ws : List V} {x : T} {y : V} {o : List Addr}, ws.length = us.length → RpTs K G H (us ++ x :: ts) (ws ++ y :: vs) o → ∃ o', RpTs K G H (x :: (us ++ ts)) (y :: (ws ++ vs)) o' ∧ o.Perm o'
  | [], ws, x, y, o, hl, h => by
    cases ws with
    | nil => exact ⟨o, h, .refl _⟩
    | cons _ _ => simp at hl
  | u :: us, ws, x, y, o, hl, h => by
    cases ws with
    | nil => simp at hl
    | cons w ws =>
      obtain ⟨v, r, o1, o2, h1, h2, h3, h4⟩ := h
      cases h1
      obtain ⟨o', ⟨v', r', p1, p2, g1, g2, g3, g4⟩, pm⟩ := RpTs.mid (us := us) (ws := ws) (by simpa using hl) h3
      cases g1
      refine ⟨p1 ++ (o1 ++ p2), ⟨y, _, p1, o1 ++ p2, rfl, g2, ⟨w, _, o1, p2, rfl, h2, g3, rfl⟩, rfl⟩, ?_⟩
      rw [h4]
      refine (List.Perm.append_left o1 pm).trans ?_
      rw [g4]
      exact perm_mid _ _ _
theorem OkS.mid {us : List T} {ws : List V} {x : T} {y : V} (hl : ws.length = us.length) (S : OkS K G0 H0 W H (us ++ x :: ts) (ws ++ y :: vs) env σ) : OkS K G0 H0 W H (x :: us ++ ts) (y :: ws ++ vs) env σ := by
  obtain ⟨G, ot, oe, s⟩ := S
  obtain ⟨o', h, pm⟩ := s.tmp.mid hl
  have pm2 : (ot ++ oe).Perm (o' ++ oe) := List.Perm.append_right _ pm
  exact ⟨G, o', oe, h, s.env, pm2.nodup_iff.mp s.nd, fun a ha => s.fr a (pm2.mem_iff.mpr ha), s.g0, s.gh, s.h0, s.nw, s.vw⟩
theorem RpTs.split {G : Hp} : ∀ {us : List T} {ws : List V} {o : List Addr}, ws.length = us.length → RpTs K G H (us ++ ts) (ws ++ vs) o → ∃ o1 o2, RpTs K G H us ws o1 ∧ RpTs K G H ts vs o2 ∧ o = o1 ++ o2
  | [], ws, o, hl, h => by
    cases ws with
    | nil => exact ⟨[], o, ⟨rfl, rfl⟩, h, rfl⟩
    | cons _ _ => simp at hl
  | u :: us, ws, o, hl, h => by
    cases ws with
    | nil => simp at hl
    | cons w ws =>
      obtain ⟨v, r, o1, o2, h1, h2, h3, h4⟩ := h
      cases h1
      obtain ⟨p1, p2, g1, g2, g3⟩ := RpTs.split (us := us) (ws := ws) (by simpa using hl) h3
      exact ⟨o1 ++ p1, p2, ⟨w, ws, o1, p1, rfl, h2, g1, rfl⟩, g2, by rw [h4, g3, List.append_assoc]⟩
theorem same_upd {H : Hp} {p : Addr} {o : HO} (h : H p = none) : Same H (upd H p o) := fun b x e => by
  rw [upd_ne (ne_of_none e h)]
  exact e
theorem Same.none {H H' : Hp} {p : Addr} (s : Same H H') (h : H' p = none) : H p = none := by
  cases q : H p with
  | none => rfl
  | some u => rw [s p u q] at h; cases h
theorem OkS.newL {us : List T} {ws : List V} {p : Addr} (hl : ws.length = us.length) (S : OkS K G0 H0 W H (us ++ ts) (ws ++ vs) env σ) (hp : H p = none) : OkS K G0 H0 W (upd H p (.lst ws)) (.lst us :: ts) (.ref p :: vs) env σ := by
  obtain ⟨G, ot, oe, s⟩ := S
  obtain ⟨o1, o2, h1, h2, h3⟩ := s.tmp.split hl
  have gp : G p = none := Same.none s.gh hp
  have ne : ∀ a u, H a = some u → a ≠ p := fun a u e z => by rw [z, hp] at e; cases e
  have k1 : ∀ a ∈ o1, upd H p (.lst ws) a = H a := fun a ha => by
    obtain ⟨u, e, _⟩ := h1.there _ a ha
    exact upd_ne (ne a u e)
  have k2 : ∀ a ∈ o2, upd H p (.lst ws) a = H a := fun a ha => by
    obtain ⟨u, e, _⟩ := h2.there _ a ha
    exact upd_ne (ne a u e)
  have k3 : ∀ a ∈ oe, upd H p (.lst ws) a = H a := fun a ha => by
    obtain ⟨u, e, _⟩ := s.env.there _ a ha
    exact upd_ne (ne a u e)
  have all : ∀ a ∈ ot ++ oe, ∃ u, H a = some u := fun a ha => by
    rcases List.mem_append.mp ha with ha | ha
    · obtain ⟨u, e, _⟩ := s.tmp.there _ a ha; exact ⟨u, e⟩
    · obtain ⟨u, e, _⟩ := s.env.there _ a ha; exact ⟨u, e⟩
  refine ⟨G, p :: o1 ++ o2, oe, ⟨.ref p, vs, p :: o1, o2, rfl, ⟨p, ws, o1, rfl, upd_same, h1.mono (Same.refl _) _ k1, rfl⟩, h2.mono (Same.refl _) _ k2, rfl⟩, s.env.mono (Same.refl _) _ k3, ?_, fun a ha => ?_, s.g0, fun b u e => ?_, fun b u e => ?_, s.nw, fun q hq => ?_⟩
  · rw [List.cons_append, List.cons_append, ← h3]
    refine List.nodup_cons.mpr ⟨fun z => ?_, s.nd⟩
    obtain ⟨u, e⟩ := all p z
    rw [hp] at e; cases e
  · rw [List.cons_append, List.cons_append, ← h3] at ha
    rcases List.mem_cons.mp ha with e | ha
    · subst e; exact ⟨gp, Same.none s.h0 hp⟩
    · exact s.fr a ha
  · rw [upd_ne (ne b u (s.gh b u e))]; exact s.gh b u e
  · rw [upd_ne (ne b u (s.h0 b u e))]; exact s.h0 b u e
  · obtain ⟨o, h⟩ := s.vw q hq
    refine ⟨o, h.mono (Same.refl _) _ fun a ha => ?_⟩
    obtain ⟨u, e, _⟩ := h.there _ a ha
    exact upd_ne (ne a u e)
def allP : List T → Option (List D)
  | [] => some []
  | .p d :: r => (allP r).map (d :: ·)
  | _ :: _ => none
theorem allP_eq : ∀ {us : List T} {ds : List D}, allP us = some ds → us = ds.map T.p
  | [], ds, h => by cases h; rfl
  | .p d :: r, ds, h => by
    unfold allP at h
    cases q : allP r with
    | none => rw [q] at h; cases h
    | some es =>
      rw [q] at h
      cases h
      rw [allP_eq q]; rfl
  | .lst _ :: r, ds, h => by simp [allP] at h
  | .tup _ :: r, ds, h => by simp [allP] at h
  | .dic _ :: r, ds, h => by simp [allP] at h
  | .dit _ :: r, ds, h => by simp [allP] at h
  | .obj _ _ :: r, ds, h => by simp [allP] at h
  | .box _ _ :: r, ds, h => by simp [allP] at h
  | .al _ :: r, ds, h => by simp [allP] at h
def mkTup (us : List T) : T := match allP us with | some ds => .p (.tup ds) | none => .tup us
theorem rpDs_of {G : Hp} : ∀ {ds : List D} {vs : List V} {o : List Addr}, RpTs K G H (ds.map T.p) vs o → RpDs K G ds vs ∧ o = []
  | [], _, _, ⟨h, h2⟩ => ⟨h, h2⟩
  | d :: ds, _, _, ⟨v, r, o1, o2, h1, h2, h3, h4⟩ => by
    obtain ⟨g1, g2⟩ := rpDs_of h3
    exact ⟨⟨v, r, h1, h2.1, g1⟩, by rw [h4, h2.2, g2]; rfl⟩
theorem OkS.newT {us : List T} {ws : List V} {p : Addr} (hl : ws.length = us.length) (S : OkS K G0 H0 W H (us ++ ts) (ws ++ vs) env σ) (hp : H p = none) : OkS K G0 H0 W (upd H p (.tup ws)) (mkTup us :: ts) (.ref p :: vs) env σ := by
  obtain ⟨G, ot, oe, s⟩ := S
  obtain ⟨o1, o2, h1, h2, h3⟩ := s.tmp.split hl
  have gp : G p = none := Same.none s.gh hp
  have ne : ∀ a u, H a = some u → a ≠ p := fun a u e z => by rw [z, hp] at e; cases e
  have all : ∀ a ∈ ot ++ oe, ∃ u, H a = some u := fun a ha => by
    rcases List.mem_append.mp ha with ha | ha
    · obtain ⟨u, e, _⟩ := s.tmp.there _ a ha; exact ⟨u, e⟩
    · obtain ⟨u, e, _⟩ := s.env.there _ a ha; exact ⟨u, e⟩
  have sg : Same G (upd G p (.tup ws)) := same_upd gp
  have k0 : ∀ a ∈ ot ++ oe, upd H p (.tup ws) a = H a := fun a ha => by
    obtain ⟨u, e⟩ := all a ha
    exact upd_ne (ne a u e)
  subst h3
  have k1 : ∀ a ∈ o1, upd H p (.tup ws) a = H a := fun a ha => k0 a (by simp [ha])
  have k2 : ∀ a ∈ o2, upd H p (.tup ws) a = H a := fun a ha => k0 a (by simp [ha])
  have k3 : ∀ a ∈ oe, upd H p (.tup ws) a = H a := fun a ha => k0 a (by simp [ha])
  have tp : Rp K (upd G p (.tup ws)) (upd H p (.tup ws)) (mkTup us) (.ref p) o1 := by
    unfold mkTup
    cases q : allP us with
    | none => exact ⟨p, ws, rfl, upd_same, h1.mono sg _ k1⟩
    | some ds =>
      have e := allP_eq q
      subst e
      obtain ⟨g1, g2⟩ := rpDs_of h1
      exact ⟨⟨p, ws, rfl, upd_same, RpDs.mono sg _ g1⟩, g2⟩
  refine ⟨upd G p (.tup ws), o1 ++ o2, oe, ⟨.ref p, vs, o1, o2, rfl, tp, h2.mono sg _ k2, rfl⟩, s.env.mono sg _ k3, s.nd, fun a ha => ?_, fun b u e => sg b u (s.g0 b u e), fun b u e => ?_, fun b u e => ?_, fun b u e => ?_, fun q hq => ?_⟩
  · obtain ⟨u, e⟩ := all a ha
    rw [upd_ne (ne a u e)]
    exact s.fr a ha
  · by_cases hb : b = p
    · subst hb; rw [upd_same] at e ⊢; exact e
    · rw [upd_ne hb] at e ⊢; exact s.gh b u e
  · rw [upd_ne (ne b u (s.h0 b u e))]; exact s.h0 b u e
  · by_cases hb : b = p
    · exact .inr (.inl (by rw [hb]; exact Same.none s.h0 hp))
    · rw [upd_ne hb] at e; exact s.nw b u e
  · obtain ⟨o, h⟩ := s.vw q hq
    refine ⟨o, h.mono sg _ fun a ha => ?_⟩
    obtain ⟨u, e, _⟩ := h.there _ a ha
    exact upd_ne (ne a u e)
end
end DL
set_option Elab.async false
set_option linter.all false
set_option maxRecDepth 100000
namespace DL
open PySem PySem.Spec PyProof.Rows L2
abbrev EF := Env → Option (T × Env)
abbrev AF := Env → Option (List T × Env)
abbrev CF := Env → Option (Bool × Env)
def EvT (K : PySem.W.Frag) (te : TE) (f : EF) : Prop := ∀ (G0 H0 : Hp) (W : List (T × V)) (H : Hp) (ts : List T) (vs : List V) (env : Env) (σ : St) (t : T) (env' : Env), OkS K G0 H0 W H ts vs env σ → f env = some (t, env') →
  ∀ Q : VK, (∀ v H', Same H H' → OkS K G0 H0 W H' (t :: ts) (v :: vs) env' σ → Q v H') → te σ H Q
def EvV (K : PySem.W.Frag) (te : TE) (f : EF) : Prop := ∀ (G0 H0 : Hp) (W : List (T × V)) (H : Hp) (ts : List T) (vs : List V) (env : Env) (σ : St) (t : T) (env' : Env), OkS K G0 H0 W H ts vs env σ → f env = some (t, env') →
  ∀ Q : VK, (∀ v H', Same H H' → OkS K G0 H0 ((t, v) :: W) H' ts vs env' σ → Q v H') → te σ H Q
def EvA (K : PySem.W.Frag) (ta : TA) (f : AF) : Prop := ∀ (G0 H0 : Hp) (W : List (T × V)) (H : Hp) (ts : List T) (vs : List V) (env : Env) (σ : St) (us : List T) (env' : Env), OkS K G0 H0 W H ts vs env σ → f env = some (us, env') →
  ∀ Q : List V → Hp → Prop, (∀ ws H', Same H H' → ws.length = us.length → OkS K G0 H0 W H' (us ++ ts) (ws ++ vs) env' σ → Q ws H') → ta σ H Q
def EvC (K : PySem.W.Frag) (tc : TT) (f : CF) : Prop := ∀ (G0 H0 : Hp) (W : List (T × V)) (H : Hp) (ts : List T) (vs : List V) (env : Env) (σ : St) (c : Bool) (env' : Env), OkS K G0 H0 W H ts vs env σ → f env = some (c, env') →
  ∀ Q : Bool → Hp → Prop, (∀ H', Same H H' → OkS K G0 H0 W H' ts vs env' σ → Q c H') → tc σ H Q
structure DT (X : Cx) (e : Expr) (te : TE) (f : EF) : Prop where
  pe : PE X e te
  ok : EvT X.K te f
structure DV (X : Cx) (e : Expr) (te : TE) (f : EF) : Prop where
  pe : PE X e te
  ok : EvV X.K te f
structure DA (X : Cx) (es : List Expr) (ta : TA) (f : AF) : Prop where
  pa : PA X es ta
  ok : EvA X.K ta f
structure DC (X : Cx) (e : Expr) (tc : TT) (f : CF) : Prop where
  pt : PT X e tc
  ok : EvC X.K tc f
section
variable {K : PySem.W.Frag} {G0 H0 H : Hp} {W : List (T × V)} {ts : List T} {vs : List V} {env : Env} {σ : St} {t : T} {v : V}
theorem OkS.dup {d : D} (S : OkS K G0 H0 W H (.p d :: ts) (v :: vs) env σ) : OkS K G0 H0 W H (.p d :: .p d :: ts) (v :: v :: vs) env σ := by
  obtain ⟨G, ot, oe, s⟩ := S
  obtain ⟨u, r, o1, o2, h1, h2, h3, h4⟩ := id s.tmp
  cases h1
  refine ⟨G, ot, oe, ⟨v, _, [], ot, rfl, ⟨h2.1, rfl⟩, s.tmp, rfl⟩, s.env, s.nd, s.fr, s.g0, s.gh, s.h0, s.nw, s.vw⟩
theorem OkS.len (S : OkS K G0 H0 W H ts vs env σ) : σ.length = env.length := by
  obtain ⟨G, ot, oe, s⟩ := S
  exact s.env.len
end
theorem obind {α β : Type} {x : Option α} {f : α → Option β} {y : β} (h : x.bind f = some y) : ∃ a, x = some a ∧ f a = some y := by
  cases x with
  | none => cases h
  | some a => exact ⟨a, rfl, h⟩
theorem omap {α β : Type} {x : Option α} {f : α → β} {y : β} (h : x.map f = some y) : ∃ a, x = some a ∧ f a = y := by
  cases x with
  | none => cases h
  | some a => exact ⟨a, rfl, Option.some.inj h⟩
theorem set_back {α : Type} {l : List α} {i : Nat} {x : α} (h : l[i]? = some x) : l.set i x = l := by
  obtain ⟨h1, e⟩ := List.getElem?_eq_some_iff.mp h
  rw [← e]; exact List.set_getElem_self h1
def eC (d : D) : EF := fun env => some (.p d, env)
def eV (i : Nat) : EF := fun env => match env[i]? with
  | some (some (.p d)) => some (.p d, env)
  | some (some t) => some (.p t.toD, env.set i (some (.p t.toD)))
  | _ => none
def eM (i : Nat) : EF := fun env => match env[i]? with
  | some (some t) => some (t, env.set i none)
  | _ => none
def eB (i : Nat) : EF := fun env => match env[i]? with
  | some (some t) => some (t, env)
  | _ => none
theorem ev_c {K : PySem.W.Frag} {d : D} {v : V} (h : ∀ G, RpD K G d v) : EvT K (tC v) (eC d) := by
  intro G0 H0 W H ts vs env σ t env' S e Q q
  cases e
  exact q v H (Same.refl _) (S.scal h)
theorem ev_v {K : PySem.W.Frag} {i : Nat} : EvT K (tVar i) (eV i) := by
  intro G0 H0 W H ts vs env σ t env' S e Q q
  unfold eV at e
  cases h : env[i]? with
  | none => rw [h] at e; cases e
  | some x =>
    rw [h] at e
    cases x with
    | none => cases e
    | some u =>
      have own : (∀ d, u ≠ .p d) → some (T.p u.toD, env.set i (some (.p u.toD))) = some (t, env') → tVar i σ H Q := fun _ e => by
        cases e
        obtain ⟨v, hv, S1⟩ := S.get h
        have hl : i < env.length := (List.getElem?_eq_some_iff.mp h).1
        have S2 := S1.frz.dup.put (i := i) (by simpa using hl)
        rw [List.set_set, set_back hv] at S2
        exact ⟨v, hv, q v H (Same.refl _) S2⟩
      cases u with
      | p d =>
        cases e
        obtain ⟨v, hv, S1⟩ := S.look h
        exact ⟨v, hv, q v H (Same.refl _) S1.ofview⟩
      | lst us => exact own (fun d z => by cases z) e
      | tup us => exact own (fun d z => by cases z) e
      | dic us => exact own (fun d z => by cases z) e
      | dit us => exact own (fun d z => by cases z) e
      | obj n us => exact own (fun d z => by cases z) e
      | box a us => exact own (fun d z => by cases z) e
      | al a => exact own (fun d z => by cases z) e
theorem ev_m {K : PySem.W.Frag} {i : Nat} : EvT K (tVar i) (eM i) := by
  intro G0 H0 W H ts vs env σ t env' S e Q q
  unfold eM at e
  cases h : env[i]? with
  | none => rw [h] at e; cases e
  | some x =>
    rw [h] at e
    cases x with
    | none => cases e
    | some u =>
      cases e
      obtain ⟨v, hv, S1⟩ := S.get h
      exact ⟨v, hv, q v H (Same.refl _) S1⟩
theorem ev_b {K : PySem.W.Frag} {i : Nat} : EvV K (tVar i) (eB i) := by
  intro G0 H0 W H ts vs env σ t env' S e Q q
  unfold eB at e
  cases h : env[i]? with
  | none => rw [h] at e; cases e
  | some x =>
    rw [h] at e
    cases x with
    | none => cases e
    | some u =>
      cases e
      obtain ⟨v, hv, S1⟩ := S.look h
      exact ⟨v, hv, q v H (Same.refl _) S1⟩
theorem EvT.view {K : PySem.W.Frag} {te : TE} {f : EF} (h : EvT K te f) : EvV K te f := by
  intro G0 H0 W H ts vs env σ t env' S e Q q
  exact h _ _ _ _ _ _ _ _ _ _ S e Q fun v H' s S' => q v H' s S'.toview
def eW (f : EF) : EF := fun env => (f env).bind fun r => match r.1 with | .p d => some (.p d, r.2) | _ => none
theorem EvV.val {K : PySem.W.Frag} {te : TE} {f : EF} (h : EvV K te f) : EvT K te (eW f) := by
  intro G0 H0 W H ts vs env σ t env' S e Q q
  obtain ⟨⟨u, e1⟩, h1, h2⟩ := obind e
  cases u with
  | p d => cases h2; exact h _ _ _ _ _ _ _ _ _ _ S h1 Q fun v H' s S' => q v H' s S'.ofview
  | lst _ => cases h2
  | tup _ => cases h2
  | dic _ => cases h2
  | dit _ => cases h2
  | obj _ _ => cases h2
  | box _ _ => cases h2
  | al _ => cases h2
section
variable {X : Cx} {e a b : Expr} {es : List Expr} {te ta tb : TE} {tr : TA} {f fa fb : EF} {fr : AF} {pos : Pos}
theorem dt_int {i j} : DT X (.Constant (.int i) j pos) (tC (.int i)) (eC (.int i)) := ⟨pe_int, ev_c fun _ => rfl⟩
theorem dt_bl {b j} : DT X (.Constant (.bool b) j pos) (tC (.bl b)) (eC (.bl b)) := ⟨pe_bl, ev_c fun _ => rfl⟩
theorem dt_non {j} : DT X (.Constant .none j pos) (tC .non) (eC .non) := ⟨pe_non, ev_c fun _ => rfl⟩
theorem dt_str {x j} : DT X (.Constant (.str x) j pos) (tC (.str x)) (eC (.str x)) := ⟨pe_str, ev_c fun _ => rfl⟩
theorem dt_v (i : Nat) {x : Str} (hN : X.N[i]? = some x := by rfl) (hv : Vis X.env.scope x := by first | exact Or.inl rfl | exact Or.inr (Or.inl rfl) | exact Or.inr (Or.inr rfl)) (hd : (x == ("__debug__" : Str)) = false := by decide)
    (hcd : (x == ("__classdict__" : Str)) = false := by decide) : DT X (.Name x pos) (tVar i) (eV i) := ⟨pe_var hN hv hd hcd, ev_v⟩
theorem dt_m (i : Nat) {x : Str} (hN : X.N[i]? = some x := by rfl) (hv : Vis X.env.scope x := by first | exact Or.inl rfl | exact Or.inr (Or.inl rfl) | exact Or.inr (Or.inr rfl)) (hd : (x == ("__debug__" : Str)) = false := by decide)
    (hcd : (x == ("__classdict__" : Str)) = false := by decide) : DT X (.Name x pos) (tVar i) (eM i) := ⟨pe_var hN hv hd hcd, ev_m⟩
theorem dv_v (i : Nat) {x : Str} (hN : X.N[i]? = some x := by rfl) (hv : Vis X.env.scope x := by first | exact Or.inl rfl | exact Or.inr (Or.inl rfl) | exact Or.inr (Or.inr rfl)) (hd : (x == ("__debug__" : Str)) = false := by decide)
    (hcd : (x == ("__classdict__" : Str)) = false := by decide) : DV X (.Name x pos) (tVar i) (eB i) := ⟨pe_var hN hv hd hcd, ev_b⟩
theorem DT.dv (h : DT X e te f) : DV X e te f := ⟨h.pe, h.ok.view⟩
theorem DV.dt (h : DV X e te f) : DT X e te (eW f) := ⟨h.pe, h.ok.val⟩
def aN : AF := fun env => some ([], env)
def aC (f : EF) (r : AF) : AF := fun env => (f env).bind fun x => (r x.2).map fun y => (x.1 :: y.1, y.2)
theorem da_nil : DA X [] tNil aN := by
  refine ⟨pa_nil, ?_⟩
  intro G0 H0 W H ts vs env σ us env' S e Q q
  cases e
  exact q [] H (Same.refl _) rfl S
theorem da_cons (h : DT X e te f) (hr : DA X es tr fr) (hs : starEach (e :: es) X.env = (false, eval e X.env) :: starEach es X.env := by rfl) : DA X (e :: es) (tCons te tr) (aC f fr) := by
  refine ⟨pa_cons h.pe hr.pa hs, ?_⟩
  intro G0 H0 W H ts vs env σ us env' S g Q q
  obtain ⟨⟨x, e1⟩, h1, h2⟩ := obind g
  obtain ⟨⟨y, e2⟩, h3, h4⟩ := omap h2
  cases h4
  refine h.ok _ _ _ _ _ _ _ _ _ _ S h1 _ fun v H1 s1 S1 => ?_
  refine hr.ok _ _ _ _ _ _ _ _ _ _ S1 h3 _ fun ws H2 s2 hl S2 => ?_
  exact q (v :: ws) H2 (s1.trans s2) (by simp [hl]) (S2.mid hl)
def eL (r : AF) : EF := fun env => (r env).bind fun x => if x.1.length ≤ 1000 then some (.lst x.1, x.2) else none
def eT (r : AF) : EF := fun env => (r env).bind fun x => if x.1.length ≤ 1000 then some (mkTup x.1, x.2) else none
theorem le1000 {n : Nat} (h : n ≤ 1000) : n ≤ sizeLine := by rw [sizeLine_eq]; omega
theorem dt_lst (h : DA X es tr fr) : DT X (.List es pos) (tLst tr) (eL fr) := by
  refine ⟨pe_lst h.pa, ?_⟩
  intro G0 H0 W H ts vs env σ t env' S g Q q
  obtain ⟨⟨x, e1⟩, h1, h2⟩ := obind g
  by_cases hl : x.length ≤ 1000
  · rw [if_pos hl] at h2
    cases h2
    refine h.ok _ _ _ _ _ _ _ _ _ _ S h1 _ fun ws H1 s1 hw S1 => ⟨by rw [hw]; exact le1000 hl, fun p hp => ?_⟩
    exact q _ _ (s1.trans (same_upd hp)) (S1.newL hw hp)
  · rw [if_neg hl] at h2; cases h2
theorem dt_tup {k} (h : DA X es tr fr) : DT X (.Tuple es k pos) (tTup tr) (eT fr) := by
  refine ⟨pe_tup h.pa, ?_⟩
  intro G0 H0 W H ts vs env σ t env' S g Q q
  obtain ⟨⟨x, e1⟩, h1, h2⟩ := obind g
  by_cases hl : x.length ≤ 1000
  · rw [if_pos hl] at h2
    cases h2
    refine h.ok _ _ _ _ _ _ _ _ _ _ S h1 _ fun ws H1 s1 hw S1 => ⟨by rw [hw]; exact le1000 hl, fun p hp => ?_⟩
    exact q _ _ (s1.trans (same_upd hp)) (S1.newT hw hp)
  · rw [if_neg hl] at h2; cases h2
def eOp (g : D → D → Option D) (fa fb : EF) : EF := fun env => (fa env).bind fun x => (fb x.2).bind fun y => match x.1, y.1 with
  | .p a, .p b => (g a b).map fun d => (.p d, y.2)
  | _, _ => none
theorem eOp_some {g : D → D → Option D} {t : T} {env env' : Env} (h : eOp g fa fb env = some (t, env')) : ∃ a e1 b d, fa env = some (.p a, e1) ∧ fb e1 = some (.p b, env') ∧ g a b = some d ∧ t = .p d := by
  obtain ⟨⟨x, e1⟩, h1, h2⟩ := obind h
  obtain ⟨⟨y, e2⟩, h3, h4⟩ := obind h2
  cases x with
  | p a =>
    cases y with
    | p b =>
      obtain ⟨d, h5, h6⟩ := omap h4
      cases h6
      exact ⟨a, e1, b, d, h1, h3, h5, rfl⟩
    | lst _ => cases h4
    | tup _ => cases h4
    | dic _ => cases h4
    | dit _ => cases h4
    | obj _ _ => cases h4
    | box _ _ => cases h4
    | al _ => cases h4
  | lst _ => cases h4
  | tup _ => cases h4
  | dic _ => cases h4
  | dit _ => cases h4
  | obj _ _ => cases h4
  | box _ _ => cases h4
  | al _ => cases h4
def Sc2 (r : R2) (g : D → D → Option D) : Prop := ∀ a b d, g a b = some d → ∀ (K : PySem.W.Frag) (H : Hp) (v w : V) (Q : VK), RpD K H a v → RpD K H b w → (∀ u, (∀ G, RpD K G d u) → Q u H) → r v w H Q
theorem ev_op {K : PySem.W.Frag} {r : R2} {g : D → D → Option D} (hs : Sc2 r g) (ha : EvT K ta fa) (hb : EvT K tb fb) : EvT K (tOp r ta tb) (eOp g fa fb) := by
  intro G0 H0 W H ts vs env σ t env' S e Q q
  obtain ⟨a, e1, b, d, h1, h2, h3, rfl⟩ := eOp_some e
  refine ha _ _ _ _ _ _ _ _ _ _ S h1 _ fun v H1 s1 S1 => ?_
  refine hb _ _ _ _ _ _ _ _ _ _ S1 h2 _ fun w H2 s2 S2 => ?_
  exact hs a b d h3 K H2 v w Q S2.pop.top S2.top fun u hu => q u H2 (s1.trans s2) (S2.pop.pop.scal hu)
theorem dt_op {op : Operator} {r : R2} {g : D → D → Option D} (ho : OpR X (binaryOp op) r) (hs : Sc2 r g) (ha : DT X a ta fa) (hb : DT X b tb fb) : DT X (.BinOp a op b pos) (tOp r ta tb) (eOp g fa fb) :=
  ⟨pe_op ho ha.pe hb.pe, ev_op hs ha.ok hb.ok⟩
end
def gI (c : Int → Int → Bool) (f : Int → Int → Int) : D → D → Option D
  | .int i, .int j => if c i j then some (.int (f i j)) else none
  | _, _ => none
theorem gI_some {c : Int → Int → Bool} {f : Int → Int → Int} {a b d : D} (h : gI c f a b = some d) : ∃ i j, a = .int i ∧ b = .int j ∧ c i j = true ∧ d = .int (f i j) := by
  unfold gI at h
  split at h
  · rename_i i j
    by_cases hc : c i j = true
    · rw [if_pos hc] at h; cases h; exact ⟨i, j, rfl, rfl, hc, rfl⟩
    · rw [if_neg hc] at h; cases h
  · cases h
theorem sc_int {C : Int → Int → Prop} {c : Int → Int → Bool} {f : Int → Int → Int} (hc : ∀ i j, c i j = true → C i j) : Sc2 (rI C fun i j => .int (f i j)) (gI c f) := by
  intro a b d h K H v w Q hv hw q
  obtain ⟨i, j, rfl, rfl, h1, rfl⟩ := gI_some h
  exact ⟨i, j, hv, hw, hc i j h1, q _ fun _ => rfl⟩
theorem sc_int0 {f : Int → Int → Int} : Sc2 (rI0 fun i j => .int (f i j)) (gI (fun _ _ => true) f) := by
  intro a b d h K H v w Q hv hw q
  obtain ⟨i, j, rfl, rfl, h1, rfl⟩ := gI_some h
  exact ⟨i, j, hv, hw, q _ fun _ => rfl⟩
def mulOk (i j : Int) : Bool := decide ((-18446744073709551616 < i ∧ i < 18446744073709551616) ∨ (-18446744073709551616 < j ∧ j < 18446744073709551616) ∨ Builtin.Int.intBits i + Builtin.Int.intBits j ≤ 134217728)
def divOk (_ j : Int) : Bool := decide (0 < j ∧ j < 1606938044258990275541962092341162602522202993782792835301376)
def modOk (_ j : Int) : Bool := decide (0 < j)
def powOk (i j : Int) : Bool := decide (0 ≤ j ∧ j ≤ 1000 ∧ 0 ≤ i ∧ i < 18446744073709551616)
theorem mulOk_ok {i j : Int} (h : mulOk i j = true) : IntMulOk i j := by
  rcases of_decide_eq_true h with h | h | h
  · exact .of_left (intBits_le_64 (by omega) (by omega))
  · exact .of_right (intBits_le_64 (by omega) (by omega))
  · exact PyProof.Rows.mulOk_of_bits (Nat.le_refl _) (Nat.le_refl _) h
section
variable {X : Cx}
theorem op_mulB : OpR X (binaryOp .Mult) (rI IntMulOk fun i j => .int (i * j)) := opI fun _ _ _ _ _ _ _ hc q => mul_int q hc
theorem divOk_ok {i j : Int} (h : divOk i j = true) : CDivW i j := by
  obtain ⟨h1, h2⟩ := of_decide_eq_true h
  refine wide_div h1 (b := 200) ?_ (by decide) (by decide)
  have e : (2 : Nat) ^ 200 = 1606938044258990275541962092341162602522202993782792835301376 := by decide
  rw [e]; omega
theorem powOk_ok {i j : Int} (h : powOk i j = true) : CPow i j := by
  obtain ⟨h1, h2, h3, h4⟩ := of_decide_eq_true h
  refine ⟨h1, by omega, ?_⟩
  omega
end
end DL
set_option Elab.async false
set_option linter.all false
set_option maxRecDepth 100000
namespace DL
open PySem PySem.Spec PyProof.Rows L2
inductive Fl where
  | nx | rt (t : T) | bk | ct
abbrev SF := Env → Option (Fl × Env)
def Dif (sl : List Nat) (σ σ' : St) : Prop := σ'.length = σ.length ∧ ∀ j, j ∉ sl → σ'[j]? = σ[j]?
theorem Dif.rfl' {sl : List Nat} {σ : St} : Dif sl σ σ := ⟨rfl, fun _ _ => rfl⟩
theorem Dif.set {i : Nat} {σ : St} {x : Option V} : Dif [i] σ (σ.set i x) := ⟨by simp, fun j hj => List.getElem?_set_ne (fun z => hj (by simp [z]))⟩
theorem Dif.tr {s1 s2 : List Nat} {σ σ1 σ2 : St} (a : Dif s1 σ σ1) (b : Dif s2 σ1 σ2) : Dif (s1 ++ s2) σ σ2 := ⟨b.1.trans a.1, fun j hj => (b.2 j fun z => hj (List.mem_append_right _ z)).trans (a.2 j fun z => hj (List.mem_append_left _ z))⟩
theorem Dif.l {s1 s2 : List Nat} {σ σ1 : St} (a : Dif s1 σ σ1) : Dif (s1 ++ s2) σ σ1 := ⟨a.1, fun j hj => a.2 j fun z => hj (List.mem_append_left _ z)⟩
theorem Dif.r {s1 s2 : List Nat} {σ σ1 : St} (a : Dif s2 σ σ1) : Dif (s1 ++ s2) σ σ1 := ⟨a.1, fun j hj => a.2 j fun z => hj (List.mem_append_right _ z)⟩
theorem Dif.two {s : List Nat} {σ σ1 σ2 : St} (a : Dif s σ σ1) (b : Dif s σ1 σ2) : Dif s σ σ2 := ⟨b.1.trans a.1, fun j hj => (b.2 j hj).trans (a.2 j hj)⟩
def Post (K : PySem.W.Frag) (G0 H0 : Hp) (ts : List T) (vs : List V) (D : Ends) (fl : Fl) (env' : Env) (sl : List Nat) (σ : St) : Prop := match fl with
  | .nx => ∀ H' σ', OkS K G0 H0 [] H' ts vs env' σ' → Dif sl σ σ' → D.nx σ' H'
  | .bk => ∀ H' σ', OkS K G0 H0 [] H' ts vs env' σ' → Dif sl σ σ' → D.bk σ' H'
  | .ct => ∀ H' σ', OkS K G0 H0 [] H' ts vs env' σ' → Dif sl σ σ' → D.ct σ' H'
  | .rt t => ∀ v H' σ', OkS K G0 H0 [] H' (t :: ts) (v :: vs) env' σ' → Dif sl σ σ' → D.rt v H'
def EvS (K : PySem.W.Frag) (s : TS) (F : SF) (sl : List Nat) : Prop := ∀ (G0 H0 H : Hp) (ts : List T) (vs : List V) (env : Env) (σ : St) (fl : Fl) (env' : Env), OkS K G0 H0 [] H ts vs env σ → F env = some (fl, env') → ∀ D : Ends, Post K G0 H0 ts vs D fl env' sl σ → s D σ H
structure DS (X : Cx) (st : Stmt) (s : TS) (F : SF) (sl : List Nat) : Prop where
  ps : PS X st s
  ok : EvS X.K s F sl
structure DSs (X : Cx) (st : List Stmt) (s : TS) (F : SF) (sl : List Nat) : Prop where
  ps : PSs X st s
  ok : EvS X.K s F sl
def sNx : SF := fun env => some (.nx, env)
def sSeq (F1 F2 : SF) : SF := fun env => (F1 env).bind fun r => match r.1 with
  | .nx => F2 r.2
  | .rt t => some (.rt t, r.2)
  | .bk => some (.bk, r.2)
  | .ct => some (.ct, r.2)
def sRet (f : EF) : SF := fun env => (f env).map fun r => (.rt r.1, r.2)
def sRetN : SF := fun env => some (.rt (.p .non), env)
def sBk : SF := fun env => some (.bk, env)
def sCt : SF := fun env => some (.ct, env)
def sNo : SF := fun _ => none
def sIf (c : CF) (F1 F2 : SF) : SF := fun env => (c env).bind fun r => if r.1 then F1 r.2 else F2 r.2
def sSet (i : Nat) (f : EF) : SF := fun env => (f env).bind fun r => if i < r.2.length then some (.nx, r.2.set i (some r.1)) else none
def sDrop (f : EF) : SF := fun env => (f env).map fun r => (.nx, r.2)
section
variable {X : Cx} {e : Expr} {st : Stmt} {sts : List Stmt} {te : TE} {tc : TT} {f : EF} {c : CF} {t u : TS} {F1 F2 : SF} {pos : Pos} {sl sl2 : List Nat}
theorem dss_nil : DSs X [] tNext sNx [] := by
  refine ⟨pss_nil, ?_⟩
  intro G0 H0 H ts vs env σ fl env' S e D q
  cases e
  exact q H σ S .rfl'
theorem dss_cons (h1 : DS X st t F1 sl) (h2 : DSs X sts u F2 sl2) : DSs X (st :: sts) (tSeq t u) (sSeq F1 F2) (sl ++ sl2) := by
  refine ⟨pss_cons h1.ps h2.ps, ?_⟩
  intro G0 H0 H ts vs env σ fl env' S g D q
  obtain ⟨⟨fl1, e1⟩, g1, g2⟩ := obind g
  refine h1.ok _ _ _ _ _ _ _ _ _ S g1 _ ?_
  cases fl1 with
  | nx =>
    intro H' σ' S' f1
    refine h2.ok _ _ _ _ _ _ _ _ _ S' g2 D ?_
    cases fl with
    | nx => exact fun H2 σ2 S2 f2 => q H2 σ2 S2 (f1.tr f2)
    | bk => exact fun H2 σ2 S2 f2 => q H2 σ2 S2 (f1.tr f2)
    | ct => exact fun H2 σ2 S2 f2 => q H2 σ2 S2 (f1.tr f2)
    | rt v => exact fun w H2 σ2 S2 f2 => q w H2 σ2 S2 (f1.tr f2)
  | rt t => cases g2; exact fun w H2 σ2 S2 f2 => q w H2 σ2 S2 f2.l
  | bk => cases g2; exact fun H2 σ2 S2 f2 => q H2 σ2 S2 f2.l
  | ct => cases g2; exact fun H2 σ2 S2 f2 => q H2 σ2 S2 f2.l
theorem dss_one (h1 : DS X st t F1 sl) : DSs X [st] t F1 sl := ⟨pss_one h1.ps, h1.ok⟩
theorem ds_ret (h : DT X e te f) : DS X (.Return (some e) pos) (tRet te) (sRet f) [] := by
  refine ⟨ps_ret h.pe, ?_⟩
  intro G0 H0 H ts vs env σ fl env' S g D q
  obtain ⟨⟨x, e1⟩, g1, g2⟩ := omap g
  cases g2
  exact h.ok _ _ _ _ _ _ _ _ _ _ S g1 _ fun v H' _ S' => q v H' σ S' .rfl'
theorem ds_if {a b : List Stmt} (hc : DC X e tc c) (h1 : DSs X a t F1 sl) (h2 : DSs X b u F2 sl2) : DS X (.If e a b pos) (tIfS tc t u) (sIf c F1 F2) (sl ++ sl2) := by
  refine ⟨ps_if hc.pt h1.ps h2.ps, ?_⟩
  intro G0 H0 H ts vs env σ fl env' S g D q
  obtain ⟨⟨b, e1⟩, g1, g2⟩ := obind g
  refine hc.ok _ _ _ _ _ _ _ _ _ _ S g1 _ fun H' _ S' => ?_
  cases b with
  | true =>
    rw [if_pos rfl]
    refine h1.ok _ _ _ _ _ _ _ _ _ S' g2 D ?_
    cases fl with
    | nx => exact fun H2 σ2 S2 f2 => q H2 σ2 S2 f2.l
    | bk => exact fun H2 σ2 S2 f2 => q H2 σ2 S2 f2.l
    | ct => exact fun H2 σ2 S2 f2 => q H2 σ2 S2 f2.l
    | rt v => exact fun w H2 σ2 S2 f2 => q w H2 σ2 S2 f2.l
  | false =>
    rw [if_neg Bool.false_ne_true]
    refine h2.ok _ _ _ _ _ _ _ _ _ S' g2 D ?_
    cases fl with
    | nx => exact fun H2 σ2 S2 f2 => q H2 σ2 S2 f2.r
    | bk => exact fun H2 σ2 S2 f2 => q H2 σ2 S2 f2.r
    | ct => exact fun H2 σ2 S2 f2 => q H2 σ2 S2 f2.r
    | rt v => exact fun w H2 σ2 S2 f2 => q w H2 σ2 S2 f2.r
theorem evs_set {K : PySem.W.Frag} {i : Nat} (h : EvT K te f) : EvS K (tAsg te (gName i)) (sSet i f) [i] := by
  intro G0 H0 H ts vs env σ fl env' S g D q
  obtain ⟨⟨x, e1⟩, g1, g2⟩ := obind g
  by_cases hi : i < e1.length
  · rw [if_pos hi] at g2
    cases g2
    exact h _ _ _ _ _ _ _ _ _ _ S g1 _ fun v H' _ S' => q H' _ (S'.put hi) .set
  · rw [if_neg hi] at g2; cases g2
theorem ds_set {i : Nat} {x : Str} {pos' : Pos} (hN : X.N.Nodup) (hi : X.N[i]? = some x) (hx : Loc X.env.scope x) (he : DT X e te f) (hs : swapsWith e (some (.Name x pos')) pos.line X.env = pure false := by rfl) (hf : X.fn x = true ∨ X.env.scope.names.lookup x = some .local := by first | exact .inl rfl | exact .inr rfl | assumption) :
    DS X (.Assign [.Name x pos'] e pos) (tAsg te (gName i)) (sSet i f) [i] := ⟨ps_set hN hi hx he.pe hs hf, evs_set he.ok⟩
end
abbrev GF := T → Env → Option Env
abbrev GsF := List T → Env → Option Env
def EvG (K : PySem.W.Frag) (g : TG) (G : GF) (sl : List Nat) : Prop := ∀ (G0 H0 : Hp) (W : List (T × V)) (H : Hp) (ts : List T) (vs : List V) (env : Env) (σ : St) (d : T) (x : V) (env' : Env), OkS K G0 H0 W H (d :: ts) (x :: vs) env σ → G d env = some env' →
  ∀ Q : St → Hp → Prop, (∀ σ', OkS K G0 H0 W H ts vs env' σ' → Dif sl σ σ' → Q σ' H) → g x σ H Q
def EvGs (K : PySem.W.Frag) (g : TGs) (G : GsF) (sl : List Nat) : Prop := ∀ (G0 H0 : Hp) (W : List (T × V)) (H : Hp) (ts : List T) (vs : List V) (env : Env) (σ : St) (ds : List T) (xs : List V) (env' : Env), OkS K G0 H0 W H (ds ++ ts) (xs ++ vs) env σ → xs.length = ds.length → G ds env = some env' →
  ∀ Q : St → Hp → Prop, (∀ σ', OkS K G0 H0 W H ts vs env' σ' → Dif sl σ σ' → Q σ' H) → g xs σ H Q
structure DG (X : Cx) (tg : Expr) (g : TG) (G : GF) (sl : List Nat) : Prop where
  pg : PG X tg g
  ok : EvG X.K g G sl
structure DGs (X : Cx) (tg : List Expr) (g : TGs) (G : GsF) (sl : List Nat) : Prop where
  pg : PGs X tg g
  ok : EvGs X.K g G sl
def gNm (i : Nat) : GF := fun d env => if i < env.length then some (env.set i (some d)) else none
def gEnd : GsF := fun ds env => match ds with | [] => some env | _ => none
def gAnd (g : GF) (r : GsF) : GsF := fun ds env => match ds with | d :: ds => (g d env).bind (r ds) | [] => none
def partsT : T → Option (List T)
  | .p (.tup ds) => some (ds.map T.p)
  | .tup ts => some ts
  | _ => none
def gTp (n : Nat) (g : GsF) : GF := fun d env => (partsT d).bind fun us => if us.length = n then g us env else none
theorem OkS.parts {K : PySem.W.Frag} {G0 H0 H : Hp} {W : List (T × V)} {ts us : List T} {vs : List V} {env : Env} {σ : St} {v : V} {t : T} (S : OkS K G0 H0 W H (t :: ts) (v :: vs) env σ) (h : partsT t = some us) :
    ∃ a xs, v = .ref a ∧ SqT K H a xs ∧ xs.length = us.length ∧ OkS K G0 H0 W H (us ++ ts) (xs ++ vs) env σ := by
  obtain ⟨G, ot, oe, s⟩ := S
  obtain ⟨u, r, o1, o2, h1, h2, h3, h4⟩ := s.tmp
  cases h1
  cases t with
  | p d =>
    cases d with
    | tup ds =>
      cases h
      obtain ⟨⟨a, xs, e1, e2, e3⟩, e4⟩ := h2
      subst e4
      refine ⟨a, xs, e1, tup_seq s.gh e2, by rw [List.length_map]; exact e3.len, G, ot, oe, ?_, s.env, s.nd, s.fr, s.g0, s.gh, s.h0, s.nw, s.vw⟩
      rw [h4]
      exact (rpTs_p e3).append h3
    | _ => cases h
  | tup us' =>
    cases h
    obtain ⟨a, xs, e1, e2, e3⟩ := h2
    refine ⟨a, xs, e1, tup_seq s.gh e2, e3.len, G, ot, oe, ?_, s.env, s.nd, s.fr, s.g0, s.gh, s.h0, s.nw, s.vw⟩
    rw [h4]
    exact e3.append h3
  | lst _ => cases h
  | dic _ => cases h
  | dit _ => cases h
  | obj _ _ => cases h
  | box _ _ => cases h
  | al _ => cases h
section
variable {X : Cx} {e : Expr} {es : List Expr} {g : TG} {gs : TGs} {G : GF} {Gs : GsF} {pos : Pos}
theorem dg_name {i : Nat} {x : Str} (hN : X.N.Nodup) (hi : X.N[i]? = some x) (hx : Loc X.env.scope x) (hf : X.fn x = true ∨ X.env.scope.names.lookup x = some .local := by first | exact .inl rfl | exact .inr rfl | assumption) : DG X (.Name x pos) (gName i) (gNm i) [i] := by
  refine ⟨pg_name hN hi hx hf, ?_⟩
  intro G0 H0 W H ts vs env σ d x env' S e Q q
  unfold gNm at e
  by_cases hl : i < env.length
  · rw [if_pos hl] at e
    cases e
    exact q _ (S.put hl) .set
  · rw [if_neg hl] at e; cases e
theorem dgs_nil : DGs X [] gNil gEnd [] := by
  refine ⟨pgs_nil, ?_⟩
  intro G0 H0 W H ts vs env σ ds xs env' S hl e Q q
  cases ds with
  | nil =>
    cases e
    cases xs with
    | nil => exact ⟨rfl, q σ S ⟨rfl, fun _ _ => rfl⟩⟩
    | cons _ _ => simp at hl
  | cons _ _ => cases e
theorem dgs_cons {sl sl2 : List Nat} (h1 : DG X e g G sl) (h2 : DGs X es gs Gs sl2) (hs : (assignEach (e :: es) X.env).map (·.2) = assign e X.env :: (assignEach es X.env).map (·.2) := by rfl) : DGs X (e :: es) (gCons g gs) (gAnd G Gs) (sl ++ sl2) := by
  refine ⟨pgs_cons h1.pg h2.pg hs, ?_⟩
  intro G0 H0 W H ts vs env σ ds xs env' S hl e Q q
  cases ds with
  | nil => cases e
  | cons d ds =>
    cases xs with
    | nil => simp at hl
    | cons x xs =>
      obtain ⟨e1, g1, g2⟩ := obind e
      refine ⟨x, xs, rfl, ?_⟩
      exact h1.ok _ _ _ _ _ _ _ _ _ _ _ S g1 _ fun σ' S' f1 => h2.ok _ _ _ _ _ _ _ _ _ _ _ S' (by simpa using hl) g2 _ fun σ2 S2 f2 => q σ2 S2 ⟨f2.1.trans f1.1, fun j hj => (f2.2 j fun z => hj (List.mem_append_right _ z)).trans (f1.2 j fun z => hj (List.mem_append_left _ z))⟩
theorem dg_tup {k n : Nat} {sl : List Nat} (hc : X.calm = true) (h : DGs X es gs Gs sl) (hn : (assignEach es X.env).length = n := by rfl) (hst : (assignEach es X.env).findIdx? (·.1) = none := by rfl) : DG X (.Tuple es k pos) (gTup X.K n gs) (gTp n Gs) sl := by
  refine ⟨pg_tup hc h.pg hn hst, ?_⟩
  intro G0 H0 W H ts vs env σ d x env' S e Q q
  obtain ⟨us, h1, h2⟩ := obind e
  by_cases hl : us.length = n
  · rw [if_pos hl] at h2
    obtain ⟨a, xs, rfl, hx, hxl, S'⟩ := S.parts h1
    exact ⟨a, xs, rfl, hx, hxl.trans hl, h.ok _ _ _ _ _ _ _ _ _ _ _ S' hxl h2 _ q⟩
  · rw [if_neg hl] at h2; cases h2
def sAsg (f : EF) (G : GF) : SF := fun env => (f env).bind fun r => (G r.1 r.2).map fun e => (.nx, e)
end
structure ItOk (K : PySem.W.Frag) (G1 : Hp) (J : It) (ds : List D) : Prop where
  go : ∀ (i : Nat) (H : Hp), Same G1 H → i < ds.length → J.go i H
  stop : ∀ H : Hp, Same G1 H → J.stop ds.length H
  yld : ∀ (i : Nat) (H : Hp) (x : V) (H' : Hp) (d : D), Same G1 H → ds[i]? = some d → J.yld i H x H' → (H' = H ∧ RpD K G1 d x) ∨ ∃ (p : Addr) (xs : List V) (es : List D), H p = none ∧ H' = upd H p (.tup xs) ∧ x = .ref p ∧ d = .tup es ∧ RpDs K G1 es xs
structure Gst (G0 H0 G1 : Hp) : Prop where
  s : Same G0 G1
  nw : ∀ a o, G1 a = some o → G0 a ≠ none ∨ H0 a = none ∨ ∃ xs, o = .tup xs
section
variable {K : PySem.W.Frag} {G0 H0 H G1 : Hp} {W : List (T × V)} {ts : List T} {vs : List V} {env : Env} {σ : St} {t : T} {v : V}
theorem OkS.back (S : OkS K G1 H0 W H ts vs env σ) (g : Gst G0 H0 G1) : OkS K G0 H0 W H ts vs env σ := by
  obtain ⟨G, ot, oe, s⟩ := S
  refine ⟨G, ot, oe, s.tmp, s.env, s.nd, s.fr, g.s.trans s.g0, s.gh, s.h0, fun a o e => ?_, s.vw⟩
  rcases s.nw a o e with h | h | h
  · cases q : G1 a with
    | none => exact absurd q h
    | some u =>
      have := s.g0 a u q
      rw [e] at this
      cases this
      exact g.nw a o q
  · exact .inr (.inl h)
  · exact .inr (.inr h)
theorem OkS.fix (S : OkS K G0 H0 W H ts vs env σ) : ∃ G1, Gst G0 H0 G1 ∧ Same G1 H ∧ OkS K G1 H0 W H ts vs env σ := by
  obtain ⟨G, ot, oe, s⟩ := S
  refine ⟨G, ⟨s.g0, s.nw⟩, s.gh, G, ot, oe, s.tmp, s.env, s.nd, s.fr, Same.refl _, s.gh, s.h0, fun a o e => .inl (by rw [e]; simp), s.vw⟩
theorem OkS.fixTop {d : D} (S : OkS K G0 H0 W H (.p d :: ts) (v :: vs) env σ) : ∃ G1, Gst G0 H0 G1 ∧ Same G1 H ∧ RpD K G1 d v ∧ OkS K G1 H0 W H ts vs env σ := by
  have S' := S.pop
  obtain ⟨G, ot, oe, s⟩ := S
  obtain ⟨u, r, o1, o2, h1, h2, h3, h4⟩ := s.tmp
  cases h1
  have e4 : o2 = ot := by rw [h4, h2.2]; rfl
  rw [e4] at h3
  refine ⟨G, ⟨s.g0, s.nw⟩, s.gh, h2.1, G, ot, oe, h3, s.env, s.nd, s.fr, Same.refl _, s.gh, s.h0, fun a o e => .inl (by rw [e]; simp), s.vw⟩
theorem OkS.same (S : OkS K G1 H0 W H ts vs env σ) : Same G1 H := by
  obtain ⟨G, ot, oe, s⟩ := S
  exact s.g0.trans s.gh
theorem OkS.pushG {d : D} (S : OkS K G1 H0 W H ts vs env σ) (h : RpD K G1 d v) : OkS K G1 H0 W H (.p d :: ts) (v :: vs) env σ := by
  obtain ⟨G, ot, oe, s⟩ := S
  exact ⟨G, ot, oe, ⟨v, vs, [], ot, rfl, ⟨RpD.mono s.g0 _ h, rfl⟩, s.tmp, rfl⟩, s.env, s.nd, s.fr, s.g0, s.gh, s.h0, s.nw, s.vw⟩
theorem OkS.pushGs : ∀ {ds : List D} {xs : List V}, OkS K G1 H0 W H ts vs env σ → RpDs K G1 ds xs → OkS K G1 H0 W H (ds.map T.p ++ ts) (xs ++ vs) env σ
  | [], xs, S, h => by rw [show xs = [] from h]; exact S
  | d :: ds, xs, S, ⟨v, r, h1, h2, h3⟩ => by
    subst h1
    exact (OkS.pushGs S h3).pushG h2
end
theorem mkTup_p (ds : List D) : mkTup (ds.map T.p) = .p (.tup ds) := by
  have e : allP (ds.map T.p) = some ds := by
    induction ds with
    | nil => rfl
    | cons d ds ih => simp [allP, ih]
  unfold mkTup
  rw [e]
def loopD (G : GF) (body : SF) : List D → Env → Option (Fl × Env)
  | [], env => some (.nx, env)
  | d :: ds, env => (G (.p d) env).bind fun e1 => (body e1).bind fun r => match r.1 with
    | .nx => loopD G body ds r.2
    | .ct => loopD G body ds r.2
    | .bk => some (.nx, r.2)
    | .rt t => some (.rt t, r.2)
abbrev IF := Env → Option (List D × Env)
def EvI (K : PySem.W.Frag) (wi : TI) (f : IF) : Prop := ∀ (G0 H0 : Hp) (W : List (T × V)) (H : Hp) (ts : List T) (vs : List V) (env : Env) (σ : St) (ds : List D) (env' : Env), OkS K G0 H0 W H ts vs env σ → f env = some (ds, env') →
  ∀ R : It → Hp → Prop, (∀ J H' G1, Same H H' → Gst G0 H0 G1 → ItOk K G1 J ds → OkS K G1 H0 W H' ts vs env' σ → R J H') → wi σ H R
structure DI (X : Cx) (tg it : Expr) (wi : TI) (f : IF) : Prop where
  pi : PI X tg it wi
  ok : EvI X.K wi f
def sFor (f : IF) (G : GF) (body : SF) : SF := fun env => (f env).bind fun r => loopD G body r.1 r.2
theorem ItOk.item {K : PySem.W.Frag} {G1 H0 H H' : Hp} {J : It} {ds : List D} {W : List (T × V)} {ts : List T} {vs : List V} {env : Env} {σ : St} {i : Nat} {d : D} {x : V} (I : ItOk K G1 J ds) (S : OkS K G1 H0 W H ts vs env σ) (hd : ds[i]? = some d) (y : J.yld i H x H') :
    Same H H' ∧ OkS K G1 H0 W H' (.p d :: ts) (x :: vs) env σ := by
  rcases I.yld i H x H' d S.same hd y with ⟨rfl, h⟩ | ⟨p, xs, es, hp, rfl, rfl, rfl, h⟩
  · exact ⟨Same.refl _, S.pushG h⟩
  · have S2 := (S.pushGs h).newT (by rw [List.length_map]; exact h.len) hp
    rw [mkTup_p] at S2
    exact ⟨same_upd hp, S2⟩
theorem ds_for {X : Cx} {tg iter : Expr} {body : List Stmt} {wi : TI} {f : IF} {g : TG} {G : GF} {tb : TS} {F : SF} {pos : Pos} {sl sl2 : List Nat} (hp : PassesOwn (model X.prog X.w) X.A X.env X.xe) (hc : X.calm = true) (hi : DI X tg iter wi f) (hg : DG X tg g G sl) (hb : DSs X body tb F sl2)
    (hs : ∀ x, foldedSetIterable iter X.env x = pure x := by intro _; rfl) : DS X (.For tg iter body [] pos) (tFor wi g tb) (sFor f G F) (sl ++ sl2) := by
  refine ⟨ps_for hp hc hi.pi hg.pg hb.ps hs, ?_⟩
  intro G0 H0 H ts vs env σ fl env' S e D q
  obtain ⟨⟨ds, e1⟩, g1, g2⟩ := obind e
  refine hi.ok _ _ _ _ _ _ _ _ _ _ S g1 _ fun J H1 G1 s1 gst I S1 => ?_
  refine ⟨fun i m σ2 H => m = ds.length - i ∧ i ≤ ds.length ∧ Dif (sl ++ sl2) σ σ2 ∧ ∃ env, OkS X.K G1 H0 [] H ts vs env σ2 ∧ loopD G F (ds.drop i) env = some (fl, env'), ⟨ds.length, by simp, Nat.zero_le _, .rfl', e1, S1, by simpa using g2⟩, ?_⟩
  rintro i m σ2 H2 ⟨rfl, hle, df, env2, S2, hl⟩
  by_cases hlt : i < ds.length
  · refine .inr ⟨I.go i H2 S2.same hlt, fun σ' H' => i + 1 ≤ ds.length ∧ Dif (sl ++ sl2) σ σ' ∧ ∃ env, OkS X.K G1 H0 [] H' ts vs env σ' ∧ loopD G F (ds.drop (i + 1)) env = some (fl, env'), fun σ' H' ⟨h1, h2⟩ => ⟨ds.length - (i + 1), by omega, rfl, h1, h2⟩, fun x H3 y => ?_⟩
    obtain ⟨s3, S3⟩ := I.item S2 (List.getElem?_eq_getElem hlt) y
    rw [List.drop_eq_getElem_cons hlt] at hl
    obtain ⟨e2, l1, l2⟩ := obind hl
    obtain ⟨⟨fl2, e3⟩, l3, l4⟩ := obind l2
    refine hg.ok _ _ _ _ _ _ _ _ _ _ _ S3 l1 _ fun σ' S' f1 => ?_
    refine hb.ok _ _ _ _ _ _ _ _ _ S' l3 _ ?_
    cases fl2 with
    | nx => exact fun H' σ4 S4 f2 => ⟨hlt, df.two (f1.tr f2), e3, S4, l4⟩
    | ct => exact fun H' σ4 S4 f2 => ⟨hlt, df.two (f1.tr f2), e3, S4, l4⟩
    | bk => cases l4; exact fun H' σ4 S4 f2 => q H' σ4 (S4.back gst) (df.two (f1.tr f2))
    | rt t => cases l4; exact fun v H' σ' S4 f2 => q v H' σ' (S4.back gst) (df.two (f1.tr f2))
  · have hi' : i = ds.length := by omega
    subst hi'
    rw [List.drop_length] at hl
    cases hl
    exact .inl ⟨I.stop H2 S2.same, q H2 σ2 (S2.back gst) df⟩
def iL (f : EF) : IF := fun env => (f env).bind fun r => match r.1 with | .p (.lst ds) => some (ds, r.2) | _ => none
def iTp (f : EF) : IF := fun env => (f env).bind fun r => match r.1 with | .p (.tup ds) => some (ds, r.2) | _ => none
theorem itOk_l {K : PySem.W.Frag} {G1 : Hp} {a : Addr} {ds : List D} {xs : List V} (h : SqL K G1 a xs) (hr : RpDs K G1 ds xs) : ItOk K G1 (Itl K a) ds where
  go := fun i H s hi => ⟨xs, xs[i]'(by rw [hr.len]; exact hi), s.seq h, List.getElem?_eq_getElem _⟩
  stop := fun H s => ⟨xs, s.seq h, by rw [hr.len]; exact Nat.le_refl _⟩
  yld := fun i H x H' d s hd y => by
    obtain ⟨e, y⟩ := y
    obtain ⟨v, h1, h2⟩ := hr.get hd
    have := y xs (s.seq h)
    rw [h1] at this
    cases this
    exact .inl ⟨e, h2⟩
theorem di_list {X : Cx} {tg e : Expr} {te : TE} {f : EF} (h : DT X e te f) : DI X tg e (iList X.K te) (iL f) := by
  refine ⟨pi_list h.pe, ?_⟩
  intro G0 H0 W H ts vs env σ ds env' S g R r
  obtain ⟨⟨t, e1⟩, g1, g2⟩ := obind g
  cases t with
  | p d =>
    cases d with
    | lst ds' =>
      cases g2
      refine h.ok _ _ _ _ _ _ _ _ _ _ S g1 _ fun v H1 s1 S1 => ?_
      obtain ⟨G1, gst, sG, ⟨a, xs, e1, e2, e3⟩, S2⟩ := S1.fixTop
      exact ⟨a, e1, ⟨xs, sG.seq (.inl e2)⟩, r _ _ G1 s1 gst (itOk_l (.inl e2) e3) S2⟩
    | _ => cases g2
  | _ => cases g2
def rngD (lo : Int) (n : Nat) : List D := (List.range n).map fun (k : Nat) => D.int (lo + (k : Int))
theorem itOk_r {K : PySem.W.Frag} {G1 : Hp} {lo : Int} {n : Nat} : ItOk K G1 (Itr lo n) (rngD lo n) where
  go := fun i H s hi => by show i < n; simpa [rngD] using hi
  stop := fun H s => by show n ≤ _; simp [rngD]
  yld := fun i H x H' d s hd y => by
    obtain ⟨e, y⟩ := y
    refine .inl ⟨e, ?_⟩
    by_cases hi : i < n
    · simp [rngD, hi] at hd
      subst hd
      exact y
    · simp [rngD, hi] at hd
def iR1 (f : AF) : IF := fun env => (f env).bind fun r => match r.1 with
  | [.p (.int j)] => if j < 4611686018427387904 ∧ -4611686018427387904 ≤ j then some (rngD 0 j.toNat, r.2) else none
  | _ => none
def iR2 (f : AF) : IF := fun env => (f env).bind fun r => match r.1 with
  | [.p (.int i), .p (.int j)] => if (i < 4611686018427387904 ∧ -4611686018427387904 ≤ i) ∧ (j < 4611686018427387904 ∧ -4611686018427387904 ≤ j) then some (rngD i (j - i).toNat, r.2) else none
  | _ => none
theorem di_range1 {X : Cx} {tg a : Expr} {ta : TA} {f : AF} {p pos : Pos} (hg : Gl X "range") (hm : X.mg "range" = none) (h : DA X [a] ta f) (hs : starEach [a] X.env = [(false, eval a X.env)] := by rfl) : DI X tg (.Call (.Name "range" p) [a] [] pos) (iRng1 ta) (iR1 f) := by
  refine ⟨pi_range1 hg hm h.pa hs, ?_⟩
  intro G0 H0 W H ts vs env σ ds env' S g R r
  obtain ⟨⟨us, e1⟩, g1, g2⟩ := obind g
  refine h.ok _ _ _ _ _ _ _ _ _ _ S g1 _ fun ws H1 s1 hl S1 => ?_
  dsimp only at g2
  split at g2
  · rename_i j
    by_cases hj : j < 4611686018427387904 ∧ -4611686018427387904 ≤ j
    · rw [if_pos hj] at g2
      cases g2
      cases ws with
      | nil => simp at hl
      | cons w ws =>
        cases ws with
        | cons _ _ => simp at hl
        | nil =>
          have ew : w = .int j := S1.top
          obtain ⟨G1, gst, sG, S2⟩ := OkS.fix (show OkS X.K G0 H0 W H1 ts vs _ σ from S1.pop)
          exact ⟨j, by rw [ew], by omega, by omega, r _ _ G1 s1 gst itOk_r S2⟩
    · rw [if_neg hj] at g2; cases g2
  · cases g2
end DL
set_option Elab.async false
set_option linter.all false
set_option maxRecDepth 100000
namespace DL
open PySem PySem.Spec PyProof.Rows L2
def spD (n : Nat) (φ : List D → Option T) (K : PySem.W.Frag) : Sp := fun vs H Q _ => ∃ ds t G, ds.length = n ∧ φ ds = some t ∧ Same G H ∧ RpDs K G ds vs ∧ ∀ v G' H' o, Same G G' → Same G' H' → Same H H' → Rp K G' H' t v o → o.Nodup → (∀ a ∈ o, G' a = none ∧ H a = none) →
  (∀ a u, G' a = some u → G a ≠ none ∨ H a = none ∨ ∃ xs, u = .tup xs) → Q v H'
def startE (n : Nat) (ds : List D) : Env := ds.map (fun d => some (.p d)) ++ List.replicate (n - ds.length) none
def runF (n k : Nat) (F : SF) (ds : List D) : Option T := if ds.length = k then (F (startE n ds)).bind fun r => match r.1 with
  | .rt t => some t
  | .nx => some (.p .non)
  | _ => none
  else none
theorem rpE_start {K : PySem.W.Frag} {G H : Hp} {m : Nat} : ∀ {ds : List D} {vs : List V}, RpDs K G ds vs → RpE K G H (ds.map (fun d => some (.p d)) ++ List.replicate m none) (vs.map some ++ List.replicate m none) []
  | [], vs, h => by
    rw [show vs = [] from h]
    show RpE K G H (List.replicate m none) (List.replicate m none) []
    induction m with
    | zero => exact ⟨rfl, rfl⟩
    | succ m ih => exact ⟨none, _, rfl, ih⟩
  | d :: ds, vs, ⟨v, r, h1, h2, h3⟩ => by
    subst h1
    exact ⟨v, _, [], [], rfl, ⟨h2, rfl⟩, rpE_start h3, rfl⟩
theorem L2_start {N : List Str} {vs : List V} : start N vs = vs.map some ++ List.replicate (N.length - vs.length) none := rfl
section
variable {P : Program} {w : World} {K : PySem.W.Frag} {mg : Str → Option Value} {base : Heap}
theorem okD {x qual : Str} {st : Stmt} {f : Addr} {fd : FuncData} {N ps : List Str} {k : Nat} {n np : Nat} {Fb : SF} (F : Fun K x qual st f fd) (S : FnScope N ps (defScope st)) (hn : N.length = n) (hnp : ps.length = np)
    (hbody : ∀ (cdv : Value) (A : Around) (outer : List PySem.Env) (s : Shared) (H : Hp) (E : XK), Room k (A.deeper (envOfC qual (defScope st) s.heap.objs.size f cdv)) →
      ∃ t sl, DSs (cxOf CX0 P w K mg base N qual (defScope st) f cdv A outer s H E).nox (defBody st) t Fb sl) : FnOk P w K mg base CX0 (k + 1) f fd ps (spD np (runF n np Fb) K) := by
  refine F.ok S (fun vs H Q E h => ?_) (fun cdv A outer s H vs Q E hr h => ?_)
  · obtain ⟨ds, t, G, h1, _, _, h2, _⟩ := h
    rw [h2.len, h1, hnp]
  · obtain ⟨ds, t, G, h1, h2, h3, h4, q⟩ := h
    obtain ⟨tr, sl, hd⟩ := hbody cdv A outer s H E hr
    refine ⟨tr, hd.ps, ?_⟩
    unfold runF at h2
    rw [if_pos h1] at h2
    obtain ⟨⟨fl, e1⟩, g1, g2⟩ := obind h2
    have S0 : OkS K G H [] H [] [] (startE n ds) (start N vs) := by
      refine ⟨G, [], [], ⟨rfl, rfl⟩, ?_, by simp, fun a ha => by simp at ha, Same.refl _, h3, Same.refl _, fun a o e => .inl (by rw [e]; simp), fun q hq => by cases hq⟩
      rw [L2_start, hn, h4.len]
      exact rpE_start h4
    refine hd.ok G H H [] [] _ _ fl e1 S0 g1 _ ?_
    have fin : ∀ (u : T) (v : V) (H' : Hp) (env : Env) (σ : St), OkS K G H [] H' [u] [v] env σ → u = t → Q v H' := fun u v H' env σ S1 e => by
      subst e
      obtain ⟨G', ot, oe, s1⟩ := S1
      obtain ⟨w, r, o1, o2, a1, a2, a3, a4⟩ := s1.tmp
      cases a1
      have a5 : o2 = [] := a3.2
      subst a5
      rw [List.append_nil] at a4
      subst a4
      exact q v G' H' ot s1.g0 s1.gh s1.h0 a2 (List.nodup_append.mp s1.nd).1 (fun a ha => s1.fr a (List.mem_append_left _ ha)) s1.nw
    cases fl with
    | nx =>
      have e : T.p .non = t := Option.some.inj g2
      exact fun H' σ' S1 _ => fin _ _ H' e1 σ' (S1.scal (z := .non) (u := .non) fun _ => rfl) e
    | rt u =>
      have e : u = t := Option.some.inj g2
      exact fun v H' σ' S1 _ => fin _ _ H' e1 σ' S1 e
    | bk => cases g2
    | ct => cases g2
end
def eCall (φ : List D → Option T) (fa : AF) : EF := fun env => (fa env).bind fun r => (allP r.1).bind fun ds => (φ ds).map fun t => (t, r.2)
theorem OkS.called {K : PySem.W.Frag} {G0 H0 H H' G G' : Hp} {W : List (T × V)} {ts : List T} {vs : List V} {env : Env} {σ : St} {ot oe o : List Addr} {t : T} {v : V} (s : St0 K G0 H0 W G H ts vs env σ ot oe)
    (h1 : Same G G') (h2 : Same G' H') (h3 : Same H H') (h4 : Rp K G' H' t v o) (h5 : o.Nodup) (h6 : ∀ a ∈ o, G' a = none ∧ H a = none) (h7 : ∀ a u, G' a = some u → G a ≠ none ∨ H a = none ∨ ∃ xs, u = .tup xs) : OkS K G0 H0 W H' (t :: ts) (v :: vs) env σ := by
  have all : ∀ a ∈ ot ++ oe, ∃ u, H a = some u ∧ ∀ xs, u ≠ .tup xs := fun a ha => by
    rcases List.mem_append.mp ha with ha | ha
    · exact s.tmp.there _ a ha
    · exact s.env.there _ a ha
  have kp : ∀ a ∈ ot ++ oe, H' a = H a := fun a ha => by
    obtain ⟨u, e, _⟩ := all a ha
    rw [e, h3 a u e]
  refine ⟨G', o ++ ot, oe, ⟨v, vs, o, ot, rfl, h4, s.tmp.mono h1 _ (fun a ha => kp a (List.mem_append_left _ ha)), rfl⟩, s.env.mono h1 _ (fun a ha => kp a (List.mem_append_right _ ha)), ?_, fun a ha => ?_, s.g0.trans h1, h2, s.h0.trans h3, fun a u e => ?_, fun q hq => ?_⟩
  · rw [List.append_assoc]
    refine List.nodup_append.mpr ⟨h5, s.nd, fun a ha b hb e => ?_⟩
    subst e
    obtain ⟨u, e, _⟩ := all a hb
    rw [(h6 a ha).2] at e; cases e
  · rw [List.append_assoc] at ha
    rcases List.mem_append.mp ha with ha | ha
    · exact ⟨(h6 a ha).1, Same.none s.h0 (h6 a ha).2⟩
    · refine ⟨?_, (s.fr a ha).2⟩
      cases q : G' a with
      | none => rfl
      | some u =>
        obtain ⟨u', e, ne⟩ := all a ha
        rcases h7 a u q with z | z | ⟨xs, z⟩
        · exact absurd (s.fr a ha).1 z
        · rw [z] at e; cases e
        · have := h2 a u q
          rw [h3 a u' e] at this
          cases this
          exact absurd z (ne xs)
  · rcases h7 a u e with z | z | z
    · cases q : G a with
      | none => exact absurd q z
      | some u' =>
        have := h1 a u' q
        rw [e] at this; cases this
        exact s.nw a u q
    · exact .inr (.inl (Same.none s.h0 z))
    · exact .inr (.inr z)
  · obtain ⟨o', h⟩ := s.vw q hq
    refine ⟨o', h.mono h1 _ fun a ha => ?_⟩
    obtain ⟨u, e, _⟩ := h.there _ a ha
    rw [e, h3 a u e]
theorem ev_call {K : PySem.W.Frag} {n : Nat} {φ : List D → Option T} {ta : TA} {fa : AF} (hφ : ∀ ds t, φ ds = some t → ds.length = n) (ha : EvA K ta fa) : EvT K (tCall (spD n φ K) [] E0 ta) (eCall φ fa) := by
  intro G0 H0 W H ts vs env σ t env' S g Q q
  obtain ⟨⟨us, e1⟩, g1, g2⟩ := obind g
  obtain ⟨ds, g3, g4⟩ := obind g2
  obtain ⟨t', g5, g6⟩ := omap g4
  cases g6
  have eu := allP_eq g3
  have eu : us = ds.map T.p := eu
  subst eu
  refine ha _ _ _ _ _ _ _ _ _ _ S g1 _ fun ws H1 s1 hl S1 => ?_
  obtain ⟨G, ot, oe, s⟩ := S1
  obtain ⟨o1, o2, k1, k2, k3⟩ := s.tmp.split hl
  obtain ⟨k4, k5⟩ := rpDs_of k1
  subst k5
  have k3 : ot = o2 := k3
  subst k3
  have s' : St0 K G0 H0 W G H1 ts vs _ σ ot oe := ⟨k2, s.env, s.nd, s.fr, s.g0, s.gh, s.h0, s.nw, s.vw⟩
  refine ⟨ds, t, G, hφ _ _ g5, g5, s.gh, by rw [List.append_nil]; exact k4, fun v G' H' o h1 h2 h3 h4 h5 h6 h7 => ?_⟩
  exact q v H' (s1.trans h3) (OkS.called s' h1 h2 h3 h4 h5 h6 h7)
theorem runF_len {n k : Nat} {F : SF} {ds : List D} {t : T} (h : runF n k F ds = some t) : ds.length = k := by
  unfold runF at h
  by_cases hl : ds.length = k
  · exact hl
  · rw [if_neg hl] at h; cases h
section
variable {X : Cx} {k : Nat} {f : Addr} {fd : FuncData} {ps : List Str} {n : Nat} {φ : List D → Option T} {x : Str} {p pos : Pos} {e : Expr} {es : List Expr} {ta : TA} {fa : AF}
theorem dt_call (hφ : ∀ ds t, φ ds = some t → ds.length = n) (F : FnOk X.prog X.w X.K X.mg X.base CX0 k f fd ps (spD n φ X.K)) (hr : Room k X.A) (hg : Gl X x) (hm : X.mg x = some (.ref f)) (hk : PySem.W.keepIn X.K (.ref f) = true) (hb : Binds X.K fd ps [])
    (ha : DA X (e :: es) ta fa) (hdb : (x == ("__debug__" : Str)) = false := by decide) (he : starEach (e :: es) X.env = (false, eval e X.env) :: starEach es X.env := by rfl) (hpl : (backTo pos (starEach es X.env)).any (·.1) = false := by rfl) :
    DT X (.Call (.Name x p) (e :: es) [] pos) (tCall (spD n φ X.K) [] E0 ta) (eCall φ fa) := ⟨pe_call F hr hg hm hk hb .nil pass0 ha.pa hdb he hpl, ev_call hφ ha.ok⟩
end
end DL
set_option Elab.async false
set_option linter.all false
set_option maxRecDepth 100000
namespace DL
open PySem PySem.Spec PyProof.Rows L2
def toV : D → Option V
  | .non => some .non
  | .bl b => some (.bl b)
  | .int i => some (.int i)
  | .str s => some (.str s)
  | _ => none
mutual
def toPy : D → Option PyData
  | .non => some .none
  | .bl b => some (.bool b)
  | .int i => some (.int i)
  | .str s => some (.str s)
  | .lst ds => (toPys ds).map .list
  | .tup ds => (toPys ds).map .tuple
  | .dic _ => none
  | _ => none
def toPys : List D → Option (List PyData)
  | [] => some []
  | d :: ds => (toPy d).bind fun p => (toPys ds).map (p :: ·)
end
theorem toV_rp {K : PySem.W.Frag} {G : Hp} {d : D} {v w : V} (h : toV d = some v) (r : RpD K G d w) : w = v := by
  cases d <;> simp only [toV, Option.some.injEq, reduceCtorEq] at h
  all_goals (subst h; exact r)
mutual
theorem toPy_rp {K : PySem.W.Frag} {G : Hp} : ∀ {d : D} {p : PyData} {v : V}, toPy d = some p → RpD K G d v → Dp K G v p
  | .non, p, v, h, r => by cases h; rw [show v = _ from r]; exact .non
  | .bl _, p, v, h, r => by cases h; rw [show v = _ from r]; exact .bl _
  | .int _, p, v, h, r => by cases h; rw [show v = _ from r]; exact .int _
  | .str _, p, v, h, r => by cases h; rw [show v = _ from r]; exact .str _
  | .lst ds, p, v, h, ⟨a, vs, h1, h2, h3⟩ => by
    obtain ⟨q, g1, g2⟩ := omap (show (toPys ds).map PyData.list = some p from h)
    subst g2; subst h1
    exact .lst (.inl h2) (toPys_rp g1 h3)
  | .tup ds, p, v, h, ⟨a, vs, h1, h2, h3⟩ => by
    obtain ⟨q, g1, g2⟩ := omap (show (toPys ds).map PyData.tuple = some p from h)
    subst g2; subst h1
    exact .tup (tup_sq h2) (toPys_rp g1 h3)
  | .dic _, p, v, h, r => by cases h
  | .dit _, p, v, h, r => by cases h
  | .obj _ _, p, v, h, r => by cases h
  | .al _, p, v, h, r => by cases h
theorem toPys_rp {K : PySem.W.Frag} {G : Hp} : ∀ {ds : List D} {ps : List PyData} {vs : List V}, toPys ds = some ps → RpDs K G ds vs → DpAll K G vs ps
  | [], ps, vs, h, r => by cases h; rw [show vs = [] from r]; exact .nil
  | d :: ds, ps, vs, h, ⟨v, r, h1, h2, h3⟩ => by
    obtain ⟨p, g1, g2⟩ := obind (show (toPy d).bind (fun p => (toPys ds).map (p :: ·)) = some ps from h)
    obtain ⟨qs, g3, g4⟩ := omap g2
    subst g4; subst h1
    exact .cons (toPy_rp g1 h2) (toPys_rp g3 h3)
end
def eqDeep (a b : D) : Option Bool := (toPy a).bind fun p => (toPy b).bind fun q => if SeqAt.shaped p && SeqAt.shaped q then some (PyData.eqv p q) else none
def eqQ (a b : D) : Option Bool := match toV a, toV b with
  | some v, some w => if scal v w then some (decide (v = w)) else none
  | _, _ => eqDeep a b
def rEqA (K : PySem.W.Frag) : R2 := fun x y H Q => rEq x y H Q ∨ rEqD K x y H Q
def rNeA (K : PySem.W.Frag) : R2 := fun x y H Q => rNe x y H Q ∨ rNeD K x y H Q
theorem OpR.or {X : Cx} {f : Value → Value → Sem Value} {r r' : R2} (h : OpR X f r) (h' : OpR X f r') : OpR X f (fun x y H Q => r x y H Q ∨ r' x y H Q) := by
  intro pins s σ H x y v u Q I rx ry q
  rcases q with q | q
  · exact h pins s σ H x y v u Q I rx ry q
  · exact h' pins s σ H x y v u Q I rx ry q
theorem op_eqA {X : Cx} (hu : X.A.units + 64 < cLine) : OpR X (compareOp .Eq) (rEqA X.K) := OpR.or op_eq (op_eqD hu)
theorem op_neA {X : Cx} (hu : X.A.units + 64 < cLine) : OpR X (compareOp .NotEq) (rNeA X.K) := OpR.or op_ne (op_neD hu)
theorem eqQ_r {K : PySem.W.Frag} {H : Hp} {a b : D} {c : Bool} {v w : V} {Q : VK} (h : eqQ a b = some c) (ha : RpD K H a v) (hb : RpD K H b w) (q : Q (.bl c) H) : rEqA K v w H Q := by
  have deep : eqDeep a b = some c → rEqA K v w H Q := fun h => by
    obtain ⟨p, h1, h2⟩ := obind h
    obtain ⟨p', h3, h4⟩ := obind h2
    by_cases hs : (SeqAt.shaped p && SeqAt.shaped p') = true
    · rw [if_pos hs] at h4
      cases h4
      rw [Bool.and_eq_true] at hs
      exact .inr ⟨p, p', toPy_rp h1 ha, toPy_rp h3 hb, hs.1, hs.2, q⟩
    · rw [if_neg hs] at h4; cases h4
  unfold eqQ at h
  split at h
  · rename_i v' w' e1 e2
    rw [toV_rp e1 ha, toV_rp e2 hb]
    by_cases hs : scal v' w' = true
    · rw [if_pos hs] at h; cases h; exact .inl ⟨hs, q⟩
    · rw [if_neg hs] at h; cases h
  · exact deep h
theorem neQ_r {K : PySem.W.Frag} {H : Hp} {a b : D} {c : Bool} {v w : V} {Q : VK} (h : eqQ a b = some c) (ha : RpD K H a v) (hb : RpD K H b w) (q : Q (.bl (!c)) H) : rNeA K v w H Q := by
  have deep : eqDeep a b = some c → rNeA K v w H Q := fun h => by
    obtain ⟨p, h1, h2⟩ := obind h
    obtain ⟨p', h3, h4⟩ := obind h2
    by_cases hs : (SeqAt.shaped p && SeqAt.shaped p') = true
    · rw [if_pos hs] at h4
      cases h4
      rw [Bool.and_eq_true] at hs
      exact .inr ⟨p, p', toPy_rp h1 ha, toPy_rp h3 hb, hs.1, hs.2, q⟩
    · rw [if_neg hs] at h4; cases h4
  unfold eqQ at h
  split at h
  · rename_i v' w' e1 e2
    rw [toV_rp e1 ha, toV_rp e2 hb]
    by_cases hs : scal v' w' = true
    · rw [if_pos hs] at h; cases h; exact .inl ⟨hs, q⟩
    · rw [if_neg hs] at h; cases h
  · exact deep h
def eCmp (g : D → D → Option Bool) (fa fb : EF) : EF := fun env => (fa env).bind fun x => (fb x.2).bind fun y => (g x.1.toD y.1.toD).map fun c => (.p (.bl c), y.2)
def Cm2 (r : PySem.W.Frag → R2) (g : D → D → Option Bool) : Prop := ∀ (K : PySem.W.Frag) (H : Hp) (a b : D) (c : Bool) (v w : V) (Q : VK), g a b = some c → RpD K H a v → RpD K H b w → Q (.bl c) H → r K v w H Q
theorem ev_cmp {K : PySem.W.Frag} {r : PySem.W.Frag → R2} {g : D → D → Option Bool} {ta tb : TE} {fa fb : EF} (hr : Cm2 r g) (ha : EvV K ta fa) (hb : EvV K tb fb) : EvT K (tOp (r K) ta tb) (eCmp g fa fb) := by
  intro G0 H0 W H ts vs env σ t env' S e Q q
  obtain ⟨⟨x, e1⟩, h1, h2⟩ := obind e
  obtain ⟨⟨y, e2⟩, h3, h4⟩ := obind h2
  obtain ⟨c, h5, h6⟩ := omap h4
  cases h6
  refine ha _ _ _ _ _ _ _ _ _ _ S h1 _ fun v H1 s1 S1 => ?_
  refine hb _ _ _ _ _ _ _ _ _ _ S1 h3 _ fun w H2 s2 S2 => ?_
  exact hr K H2 _ _ c v w Q h5 (S2.see (q := (x, v)) (by simp)) (S2.see (q := (y, w)) (by simp)) (q _ H2 (s1.trans s2) (S2.unview.unview.scal fun _ => rfl))
theorem cm_eq : Cm2 rEqA eqQ := fun K H a b c v w Q h ha hb q => eqQ_r h ha hb q
def neQ (a b : D) : Option Bool := (eqQ a b).map (!·)
theorem cm_ne : Cm2 rNeA neQ := fun K H a b c v w Q h ha hb q => by
  obtain ⟨c', h1, h2⟩ := omap h
  subst h2
  exact neQ_r h1 ha hb q
def cmI (f : Int → Int → Bool) : D → D → Option Bool
  | .int i, .int j => some (f i j)
  | _, _ => none
theorem cm_int {f : Int → Int → Bool} : Cm2 (fun _ => rI0 fun i j => .bl (f i j)) (cmI f) := fun K H a b c v w Q h ha hb q => by
  unfold cmI at h
  split at h
  · rename_i i j
    cases h
    exact ⟨i, j, ha, hb, q⟩
  · cases h
def D.isNon : D → Bool
  | .non => true
  | _ => false
def D.isAl : D → Bool
  | .al _ => true
  | _ => false
theorem rp_non {K : PySem.W.Frag} {G : Hp} {d : D} {v : V} (hd : d.isAl = false) (r : RpD K G d v) : decide (v = .non) = d.isNon := by
  cases d with
  | non => rw [show v = _ from r]; rfl
  | bl b => rw [show v = _ from r]; rfl
  | int b => rw [show v = _ from r]; rfl
  | str b => rw [show v = _ from r]; rfl
  | lst b => obtain ⟨a, vs, h, _⟩ := r; rw [h]; rfl
  | tup b => obtain ⟨a, vs, h, _⟩ := r; rw [h]; rfl
  | dic b => obtain ⟨a, vs, h, _⟩ := r; rw [h]; rfl
  | dit b => obtain ⟨a, vs, h, _⟩ := r; rw [h]; rfl
  | obj n b => obtain ⟨a, C, dx, vs, h, _⟩ := r; rw [h]; rfl
  | al a => cases hd
def isN (a b : D) : Option Bool := match b with | .non => if a.isAl = true then none else some a.isNon | _ => none
theorem isN_some {a b : D} {c : Bool} (h : isN a b = some c) : b = .non ∧ a.isAl = false ∧ c = a.isNon := by
  cases b <;> simp only [isN, reduceCtorEq] at h
  by_cases q : a.isAl = true
  · rw [if_pos q] at h; cases h
  · rw [if_neg q] at h; cases h; exact ⟨rfl, by simpa using q, rfl⟩
def rIsA (_ : PySem.W.Frag) : R2 := fun x y H Q => y = .non ∧ Q (.bl (decide (x = .non))) H
def rIsNotA (_ : PySem.W.Frag) : R2 := fun x y H Q => y = .non ∧ Q (.bl (!decide (x = .non))) H
theorem op_isA {X : Cx} : OpR X (compareOp .Is) (rIsA X.K) := op_isN
theorem cm_is : Cm2 rIsA isN := fun K H a b c v w Q h ha hb q => by
  obtain ⟨rfl, h1, rfl⟩ := isN_some h
  exact ⟨hb, by rw [rp_non h1 ha]; exact q⟩
def isNotN (a b : D) : Option Bool := (isN a b).map (!·)
def toVs : List D → Option (List V)
  | [] => some []
  | d :: ds => (toV d).bind fun v => (toVs ds).map (v :: ·)
theorem toVs_rp {K : PySem.W.Frag} {G : Hp} : ∀ {ds : List D} {vs ws : List V}, toVs ds = some vs → RpDs K G ds ws → ws = vs
  | [], vs, ws, h, r => by cases h; exact r
  | d :: ds, vs, ws, h, ⟨v, r, h1, h2, h3⟩ => by
    obtain ⟨p, g1, g2⟩ := obind (show (toV d).bind (fun p => (toVs ds).map (p :: ·)) = some vs from h)
    obtain ⟨qs, g3, g4⟩ := omap g2
    subst g4; subst h1
    rw [toV_rp g1 h2, toVs_rp g3 h3]
def inFlat (a : D) (ds : List D) : Option Bool := (toV a).bind fun v => (toVs ds).bind fun vs => if flatV v && vs.all flatV then some (inV v vs) else none
def inStr (a b : Str) : Bool := match a.cps.toList with
  | [c] => decide (c ∈ b.cps.toList)
  | _ => !(Builtin.Str.occurrences b a 0 b.length 1).isEmpty
def inQ (a b : D) : Option Bool := match a, b with
  | .str s, .str t => some (inStr s t)
  | a, .lst ds => inFlat a ds
  | a, .tup ds => inFlat a ds
  | _, _ => none
def notInQ (a b : D) : Option Bool := (inQ a b).map (!·)
def rInA (K : PySem.W.Frag) : R2 := fun x y H Q => (∃ (c : Nat) (z : Str), x = .str ⟨#[c]⟩ ∧ y = .str z ∧ Q (.bl (decide (c ∈ z.cps.toList))) H) ∨ (∃ i j, x = .str i ∧ y = .str j ∧ Q (.bl (!(Builtin.Str.occurrences j i 0 j.length 1).isEmpty)) H) ∨ rIn K false x y H Q
def rNotInA (K : PySem.W.Frag) : R2 := fun x y H Q => (∃ (c : Nat) (z : Str), x = .str ⟨#[c]⟩ ∧ y = .str z ∧ Q (.bl (!decide (c ∈ z.cps.toList))) H) ∨ (∃ i j, x = .str i ∧ y = .str j ∧ Q (.bl (!(!(Builtin.Str.occurrences j i 0 j.length 1).isEmpty))) H) ∨ rIn K true x y H Q
theorem op_inA {X : Cx} : OpR X (compareOp .In) (rInA X.K) := OpR.or op_in_sign (OpR.or op_in_str op_in_seq)
theorem op_notInA {X : Cx} : OpR X (compareOp .NotIn) (rNotInA X.K) := OpR.or op_notIn_sign (OpR.or op_notIn_str op_notIn_seq)
theorem str_one {a : Str} {c : Nat} (h : a.cps.toList = [c]) : a = ⟨#[c]⟩ := by
  obtain ⟨⟨l⟩⟩ := a
  have h : l = [c] := h
  subst h; rfl
theorem cm_in : Cm2 rInA inQ := fun K H a b c v w Q h ha hb q => by
  have fl : ∀ ds : List D, inFlat a ds = some c → (∃ p xs, w = .ref p ∧ (SqL K H p xs ∨ SqT K H p xs) ∧ RpDs K H ds xs) → rInA K v w H Q := fun ds h ⟨p, xs, h1, h2, h3⟩ => by
    obtain ⟨v', g1, g2⟩ := obind h
    obtain ⟨vs, g3, g4⟩ := obind g2
    by_cases hf : (flatV v' && vs.all flatV) = true
    · rw [if_pos hf] at g4
      cases g4
      rw [Bool.and_eq_true] at hf
      have e1 := toV_rp g1 ha
      have e2 := toVs_rp g3 h3
      subst e1; subst e2
      exact .inr (.inr ⟨p, xs, h1, h2, hf.1, hf.2, q⟩)
    · rw [if_neg hf] at g4; cases g4
  unfold inQ at h
  split at h
  · rename_i s t
    cases h
    unfold inStr at q
    split at q
    · rename_i c e
      rw [show v = _ from ha, str_one e]
      exact .inl ⟨c, t, rfl, hb, q⟩
    · exact .inr (.inl ⟨s, t, ha, hb, q⟩)
  · rename_i ds
    obtain ⟨p, xs, h1, h2, h3⟩ := hb
    exact fl ds h ⟨p, xs, h1, .inl (.inl h2), h3⟩
  · rename_i ds
    obtain ⟨p, xs, h1, h2, h3⟩ := hb
    exact fl ds h ⟨p, xs, h1, .inr (tup_sq h2), h3⟩
  · cases h
theorem cm_notIn : Cm2 rNotInA notInQ := fun K H a b c v w Q h ha hb q => by
  obtain ⟨c', h0, h2⟩ := omap h
  clear h
  subst h2
  have h := h0
  clear h0
  have fl : ∀ ds : List D, inFlat a ds = some c' → (∃ p xs, w = .ref p ∧ (SqL K H p xs ∨ SqT K H p xs) ∧ RpDs K H ds xs) → rNotInA K v w H Q := fun ds h ⟨p, xs, h1, h2, h3⟩ => by
    obtain ⟨v', g1, g2⟩ := obind h
    obtain ⟨vs, g3, g4⟩ := obind g2
    by_cases hf : (flatV v' && vs.all flatV) = true
    · rw [if_pos hf] at g4
      cases g4
      rw [Bool.and_eq_true] at hf
      have e1 := toV_rp g1 ha
      have e2 := toVs_rp g3 h3
      subst e1; subst e2
      exact .inr (.inr ⟨p, xs, h1, h2, hf.1, hf.2, q⟩)
    · rw [if_neg hf] at g4; cases g4
  unfold inQ at h
  split at h
  · rename_i s t
    cases h
    unfold inStr at q
    split at q
    · rename_i c e
      rw [show v = _ from ha, str_one e]
      exact .inl ⟨c, t, rfl, hb, q⟩
    · exact .inr (.inl ⟨s, t, ha, hb, q⟩)
  · rename_i ds
    obtain ⟨p, xs, h1, h2, h3⟩ := hb
    exact fl ds h ⟨p, xs, h1, .inl (.inl h2), h3⟩
  · rename_i ds
    obtain ⟨p, xs, h1, h2, h3⟩ := hb
    exact fl ds h ⟨p, xs, h1, .inr (tup_sq h2), h3⟩
  · cases h
def cT (f : EF) : CF := fun env => (f env).bind fun r => match r.1 with | .p (.bl b) => some (b, r.2) | _ => none
theorem EvT.test {K : PySem.W.Frag} {te : TE} {f : EF} (h : EvT K te f) : EvC K (tTest te) (cT f) := by
  intro G0 H0 W H ts vs env σ c env' S e Q q
  obtain ⟨⟨t, e1⟩, h1, h2⟩ := obind e
  cases t with
  | p d =>
    cases d with
    | bl b =>
      cases h2
      exact h _ _ _ _ _ _ _ _ _ _ S h1 _ fun v H' s S' => ⟨c, S'.top, q H' s S'.pop⟩
    | _ => cases h2
  | _ => cases h2
def cNot (c : CF) : CF := fun env => (c env).map fun r => (!r.1, r.2)
def cAnd (c d : CF) : CF := fun env => (c env).bind fun r => if r.1 then d r.2 else some (false, r.2)
def cOr (c d : CF) : CF := fun env => (c env).bind fun r => if r.1 then some (true, r.2) else d r.2
structure DW (X : Cx) (e : Expr) (tc : TT) (f : CF) : Prop where
  pt : PW X e tc
  ok : EvC X.K tc f
def eIf (c : CF) (fa fb : EF) : EF := fun env => (c env).bind fun r => if r.1 then fa r.2 else fb r.2
section
variable {X : Cx} {a b e : Expr} {es rest : List Expr} {ta tb te : TE} {tc td : TT} {fa fb f : EF} {c d : CF} {pos : Pos}
theorem dc_val (h : DT X e te f) (he : ∀ whole, isTrue e X.env whole = (do let v ← whole; standAt e.pos; holding [v] (truthy v)) := by intro _; rfl) : DC X e (tB te) (cT f) := ⟨pt_val h.pe he, h.ok.test⟩
theorem dt_cmp {op : CmpOp} {r : PySem.W.Frag → R2} {g : D → D → Option Bool} (ho : OpR X (compareOp op) (r X.K)) (hr : Cm2 r g) (ha : DV X a ta fa) (hb : DV X b tb fb) (hm : behindInMarks op b = false) : DT X (.Compare a [op] [b] pos) (tOp (r X.K) ta tb) (eCmp g fa fb) := ⟨pe_cmpR ho ha.pe hb.pe hm, ev_cmp hr ha.ok hb.ok⟩
theorem dc_cmp {op : CmpOp} {r : PySem.W.Frag → R2} {g : D → D → Option Bool} (ho : OpR X (compareOp op) (r X.K)) (hr : Cm2 r g) (ha : DV X a ta fa) (hb : DV X b tb fb) (hm : behindInMarks op b = false) : DC X (.Compare a [op] [b] pos) (tTest (tOp (r X.K) ta tb)) (cT (eCmp g fa fb)) := ⟨pt_cmpR ho ha.pe hb.pe hm, (ev_cmp hr ha.ok hb.ok).test⟩
theorem dc_not (h : DC X a tc c) : DC X (.UnaryOp .Not a pos) (tNot tc) (cNot c) := by
  refine ⟨pt_not h.pt, ?_⟩
  intro G0 H0 W H ts vs env σ k env' S e Q q
  obtain ⟨⟨b, e1⟩, h1, h2⟩ := omap e
  cases h2
  exact h.ok _ _ _ _ _ _ _ _ _ _ S h1 _ fun H' s S' => q H' s S'
theorem dw_and1 (h : DC X a tc c) : DW X (.BoolOp .And [a] pos) tc c := ⟨pw_and1 h.pt, h.ok⟩
theorem dw_or1 (h : DC X a tc c) : DW X (.BoolOp .Or [a] pos) tc c := ⟨pw_or1 h.pt, h.ok⟩
theorem dw_and (h : DC X a tc c) (h2 : DW X (.BoolOp .And (b :: rest) pos) td d) : DW X (.BoolOp .And (a :: b :: rest) pos) (tAnd tc td) (cAnd c d) := by
  refine ⟨pw_and h.pt h2.pt, ?_⟩
  intro G0 H0 W H ts vs env σ k env' S e Q q
  obtain ⟨⟨b, e1⟩, g1, g2⟩ := obind e
  refine h.ok _ _ _ _ _ _ _ _ _ _ S g1 _ fun H' s S' => ?_
  cases b with
  | true => rw [if_pos rfl]; exact h2.ok _ _ _ _ _ _ _ _ _ _ S' g2 _ fun H2 s2 S2 => q H2 (s.trans s2) S2
  | false => rw [if_neg Bool.false_ne_true]; cases g2; exact q H' s S'
theorem dw_or (h : DC X a tc c) (h2 : DW X (.BoolOp .Or (b :: rest) pos) td d) : DW X (.BoolOp .Or (a :: b :: rest) pos) (tOr tc td) (cOr c d) := by
  refine ⟨pw_or h.pt h2.pt, ?_⟩
  intro G0 H0 W H ts vs env σ k env' S e Q q
  obtain ⟨⟨b, e1⟩, g1, g2⟩ := obind e
  refine h.ok _ _ _ _ _ _ _ _ _ _ S g1 _ fun H' s S' => ?_
  cases b with
  | true => rw [if_pos rfl]; cases g2; exact q H' s S'
  | false => rw [if_neg Bool.false_ne_true]; exact h2.ok _ _ _ _ _ _ _ _ _ _ S' g2 _ fun H2 s2 S2 => q H2 (s.trans s2) S2
theorem DW.dc (h : DW X e tc c) : DC X e tc c := ⟨h.pt.pt, h.ok⟩
def eAnd (fa fb : EF) : EF := fun env => (cT fa env).bind fun r => if r.1 then fb r.2 else some (.p (.bl false), r.2)
def eOr (fa fb : EF) : EF := fun env => (cT fa env).bind fun r => if r.1 then some (.p (.bl true), r.2) else fb r.2
def eNot (fa : EF) : EF := fun env => (cT fa env).map fun r => (.p (.bl (!r.1)), r.2)
theorem dt_one {op} {t : TE} (h : DT X a t fa) : DT X (.BoolOp op [a] pos) t fa := ⟨pe_one h.pe, h.ok⟩
theorem dt_and (h : DT X a ta fa) (h2 : DT X (.BoolOp .And (b :: rest) pos) tb fb) : DT X (.BoolOp .And (a :: b :: rest) pos) (tAndV ta tb) (eAnd fa fb) := by
  refine ⟨pe_and h.pe h2.pe, ?_⟩
  intro G0 H0 W H ts vs env σ k env' S e Q q
  obtain ⟨⟨b, e1⟩, g1, g2⟩ := obind e
  have t1 := h.ok.test _ _ _ _ _ _ _ _ _ _ S g1 (fun b H' => if b = true then tb σ H' Q else Q (.bl false) H') fun H' s S' => by
    cases b with
    | true => rw [if_pos rfl]; exact h2.ok _ _ _ _ _ _ _ _ _ _ S' g2 _ fun v H2 s2 S2 => q v H2 (s.trans s2) S2
    | false => rw [if_neg Bool.false_ne_true]; cases g2; exact q _ H' s (S'.scal fun _ => rfl)
  exact t1
theorem dt_not (h : DT X a ta fa) : DT X (.UnaryOp .Not a pos) (tNotV ta) (eNot fa) := by
  refine ⟨pe_not h.pe, ?_⟩
  intro G0 H0 W H ts vs env σ k env' S e Q q
  obtain ⟨⟨b, e1⟩, g1, g2⟩ := omap e
  cases g2
  have t1 := h.ok.test _ _ _ _ _ _ _ _ _ _ S g1 (fun b H' => Q (.bl (!b)) H') fun H' s S' => q _ H' s (S'.scal fun _ => rfl)
  exact t1
def eChain (f g : Int → Int → Bool) (fa fb fc : EF) : EF := fun env => (fa env).bind fun x => (fb x.2).bind fun y => match x.1, y.1 with
  | .p (.int i), .p (.int j) => if f i j then (fc y.2).bind fun z => match z.1 with | .p (.int k) => some (.p (.bl (g j k)), z.2) | _ => none
    else some (.p (.bl false), y.2)
  | _, _ => none
theorem ev_chain {K : PySem.W.Frag} {p q : Int → Int → Bool} {t3 : TE} {fc : EF} (ha : EvT K ta fa) (hb : EvT K tb fb) (hc : EvT K t3 fc) : EvT K (tChain (rI0 fun i j => .bl (p i j)) (rI0 fun i j => .bl (q i j)) ta tb t3) (eChain p q fa fb fc) := by
  intro G0 H0 W H ts vs env σ t env' S e Q w
  obtain ⟨⟨x, e1⟩, h1, h2⟩ := obind e
  obtain ⟨⟨y, e2⟩, h3, h4⟩ := obind h2
  dsimp only at h4
  split at h4
  · rename_i i j
    refine ha _ _ _ _ _ _ _ _ _ _ S h1 _ fun v H1 s1 S1 => ?_
    refine hb _ _ _ _ _ _ _ _ _ _ S1 h3 _ fun u H2 s2 S2 => ?_
    refine ⟨i, j, S2.pop.top, S2.top, p i j, rfl, ?_⟩
    by_cases hp : p i j = true
    · rw [if_pos hp] at h4 ⊢
      obtain ⟨⟨z, e3⟩, h5, h6⟩ := obind h4
      refine hc _ _ _ _ _ _ _ _ _ _ S2 h5 _ fun z' H3 s3 S3 => ?_
      dsimp only at h6
      split at h6
      · rename_i k
        cases h6
        exact ⟨j, k, S3.pop.top, S3.top, w _ H3 ((s1.trans s2).trans s3) (S3.pop.pop.pop.scal fun _ => rfl)⟩
      · cases h6
    · rw [if_neg hp] at h4 ⊢
      cases h4
      exact w _ H2 (s1.trans s2) (S2.pop.pop.scal fun _ => rfl)
  · cases h4
theorem dc_chain {c : Expr} {op op' : CmpOp} {p q : Int → Int → Bool} {t3 : TE} {fc : EF} (ho : OpR X (compareOp op) (rI0 fun i j => .bl (p i j))) (ho' : OpR X (compareOp op') (rI0 fun i j => .bl (q i j))) (ha : DT X a ta fa) (hb : DT X b tb fb) (hc : DT X c t3 fc)
    (hm : lastMarks [op, op'] [b, c] = false := by with_unfolding_all rfl) : DC X (.Compare a [op, op'] [b, c] pos) (tTest (tChain (rI0 fun i j => .bl (p i j)) (rI0 fun i j => .bl (q i j)) ta tb t3)) (cT (eChain p q fa fb fc)) := ⟨pt_chain ho ho' ha.pe hb.pe hc.pe hm, (ev_chain ha.ok hb.ok hc.ok).test⟩
end
end DL
set_option Elab.async false
set_option linter.all false
set_option maxRecDepth 100000
namespace DL
open PySem PySem.Spec PyProof.Rows L2
def itemsT : T → Option (List D)
  | .p (.lst ds) => some ds
  | .p (.tup ds) => some ds
  | .lst ts => allP ts
  | .tup ts => allP ts
  | _ => none
def isLT : T → Bool
  | .p (.lst _) => true
  | .lst _ => true
  | _ => false
section
variable {K : PySem.W.Frag} {G0 H0 H : Hp} {W : List (T × V)} {ts : List T} {vs : List V} {env : Env} {σ : St} {t : T} {v : V}
theorem OkS.pushD {G : Hp} {ot oe : List Addr} : ∀ {ds : List D} {xs : List V}, St0 K G0 H0 W G H ts vs env σ ot oe → RpDs K G ds xs → OkS K G0 H0 W H (ds.map T.p ++ ts) (xs ++ vs) env σ := fun {ds xs} s h =>
  ⟨G, ot, oe, (rpTs_p h).append s.tmp, s.env, s.nd, s.fr, s.g0, s.gh, s.h0, s.nw, s.vw⟩
theorem OkS.items {ds : List D} (S : OkS K G0 H0 ((t, v) :: W) H ts vs env σ) (h : itemsT t = some ds) :
    ∃ a xs, v = .ref a ∧ (isLT t = true → SqL K H a xs) ∧ (isLT t = false → SqT K H a xs) ∧ xs.length = ds.length ∧ OkS K G0 H0 W H (ds.map T.p ++ ts) (xs ++ vs) env σ := by
  obtain ⟨G, ot, oe, s⟩ := S
  obtain ⟨o, r⟩ := s.vw (t, v) (by simp)
  have s' : St0 K G0 H0 W G H ts vs env σ ot oe := ⟨s.tmp, s.env, s.nd, s.fr, s.g0, s.gh, s.h0, s.nw, fun q hq => s.vw q (List.mem_cons_of_mem _ hq)⟩
  cases t with
  | p d =>
    cases d with
    | lst ds' =>
      cases h
      obtain ⟨⟨a, xs, e1, e2, e3⟩, _⟩ := r
      exact ⟨a, xs, e1, fun _ => s.gh.seq (.inl e2), (fun z => by cases z), e3.len, OkS.pushD s' e3⟩
    | tup ds' =>
      cases h
      obtain ⟨⟨a, xs, e1, e2, e3⟩, _⟩ := r
      exact ⟨a, xs, e1, (fun z => by cases z), fun _ => tup_seq s.gh e2, e3.len, OkS.pushD s' e3⟩
    | _ => cases h
  | lst us =>
    have e := allP_eq (show allP us = some ds from h)
    subst e
    obtain ⟨a, xs, o', e1, e2, e3, e4⟩ := r
    obtain ⟨k1, k2⟩ := rpDs_of e3
    exact ⟨a, xs, e1, fun _ => .inl (.inl e2), (fun z => by cases z), k1.len, OkS.pushD s' k1⟩
  | tup us =>
    have e := allP_eq (show allP us = some ds from h)
    subst e
    obtain ⟨a, xs, e1, e2, e3⟩ := r
    obtain ⟨k1, k2⟩ := rpDs_of e3
    exact ⟨a, xs, e1, (fun z => by cases z), fun _ => tup_seq s.gh e2, k1.len, OkS.pushD s' k1⟩
  | dic _ => cases h
  | dit _ => cases h
  | obj _ _ => cases h
  | box _ _ => cases h
  | al _ => cases h
end
def lenD : D → Option Int
  | .lst ds => some ds.length
  | .tup ds => some ds.length
  | .str s => if s.length ≤ 16777216 then some s.length else none
  | .dic kvs => none
  | _ => none
def lenT : T → Option Int
  | .p d => lenD d
  | .lst ts => some ts.length
  | .tup ts => some ts.length
  | .dic ts => none
  | _ => none
theorem toDs_length : ∀ ts : List T, (T.toDs ts).length = ts.length
  | [] => rfl
  | t :: ts => by rw [T.toDs, List.length_cons, toDs_length ts, List.length_cons]
theorem lenT_D {t : T} {n : Int} (h : lenT t = some n) : lenD t.toD = some n := by
  cases t with
  | p d => exact h
  | lst ts => rw [← h]; show some ((T.toDs ts).length : Int) = some (ts.length : Int); rw [toDs_length]
  | tup ts => rw [← h]; show some ((T.toDs ts).length : Int) = some (ts.length : Int); rw [toDs_length]
  | dic _ => cases h
  | dit _ => cases h
  | obj _ _ => cases h
  | box _ _ => cases h
  | al _ => cases h
def eB1 (g : T → Option D) (f : EF) : EF := fun env => (f env).bind fun r => (g r.1).map fun d => (.p d, r.2)
def Bi1 (r : PySem.W.Frag → List V → Hp → VK → Prop) (g : T → Option D) : Prop := ∀ (K : PySem.W.Frag) (H : Hp) (t : T) (d : D) (v : V) (Q : VK), g t = some d → RpD K H t.toD v → (∀ u, (∀ G, RpD K G d u) → Q u H) → r K [v] H Q
theorem ev_b1 {K : PySem.W.Frag} {r : PySem.W.Frag → List V → Hp → VK → Prop} {g : T → Option D} {te : TE} {f : EF} (hr : Bi1 r g) (h : EvV K te f) : EvT K (tCB (r K) (tCons te tNil)) (eB1 g f) := by
  intro G0 H0 W H ts vs env σ t env' S e Q q
  obtain ⟨⟨x, e1⟩, h1, h2⟩ := obind e
  obtain ⟨d, h3, h4⟩ := omap h2
  cases h4
  refine h _ _ _ _ _ _ _ _ _ _ S h1 _ fun v H1 s1 S1 => ?_
  exact hr K H1 x d v Q h3 (S1.see (q := (x, v)) (by simp)) fun u hu => q u H1 s1 (S1.unview.scal hu)
section
variable {X : Cx} {e a b : Expr} {te ta tb : TE} {f fa fb : EF} {p pos : Pos} {x : Str}
theorem dt_b1 {id : String} {r : PySem.W.Frag → List V → Hp → VK → Prop} {g : T → Option D} (hc : CallR X (.builtin id) (r X.K)) (hr : Bi1 r g) (hg : Gl X x) (hm : X.mg x = none) (hv : bootBuiltins x = some (.builtin id)) (h : DV X e te f)
    (hs : starEach [e] X.env = (false, eval e X.env) :: starEach [] X.env := by rfl) (hn : x ≠ "__name__" := by decide) (hdb : (x == ("__debug__" : Str)) = false := by decide) : DT X (.Call (.Name x p) [e] [] pos) (tCB (r X.K) (tCons te tNil)) (eB1 g f) :=
  ⟨pe_callB hc hg hm hv (pa_cons h.pe pa_nil hs) hn hdb hs, ev_b1 hr h.ok⟩
theorem dt_ty1 {id : String} {r : PySem.W.Frag → List V → Hp → VK → Prop} {g : T → Option D} (hc : CallR X (.type id) (r X.K)) (hr : Bi1 r g) (hg : Gl X x) (hm : X.mg x = none) (hv : bootBuiltins x = some (.type id)) (h : DV X e te f)
    (hs : starEach [e] X.env = (false, eval e X.env) :: starEach [] X.env := by rfl) (hn : x ≠ "__name__" := by decide) (hdb : (x == ("__debug__" : Str)) = false := by decide) : DT X (.Call (.Name x p) [e] [] pos) (tCB (r X.K) (tCons te tNil)) (eB1 g f) :=
  ⟨pe_callTy hc hg hm hv (pa_cons h.pe pa_nil hs) hn hdb hs, ev_b1 hr h.ok⟩
end
def rLenA (K : PySem.W.Frag) : List V → Hp → VK → Prop := fun xs H Q => (∃ p ys, xs = [.ref p] ∧ (SqL K H p ys ∨ SqT K H p ys) ∧ Q (.int ys.length) H) ∨ ∃ z, xs = [.str z] ∧ z.length ≤ sizeLine ∧ Q (.int z.length) H
theorem call_lenA {X : Cx} : CallR X (.builtin "len") (rLenA X.K) := call_len_seq.or call_len_str
def gLen (t : T) : Option D := (lenT t).map D.int
theorem bi_len : Bi1 rLenA gLen := by
  intro K H t d v Q h r q
  obtain ⟨n, h1, h2⟩ := omap h
  subst h2
  have h3 := lenT_D h1
  cases hd : t.toD with
  | lst ds =>
    rw [hd] at h3 r
    obtain ⟨a, xs, e1, e2, e3⟩ := r
    cases h3
    exact .inl ⟨a, xs, by rw [e1], .inl (.inl e2), by rw [e3.len]; exact q _ fun _ => rfl⟩
  | tup ds =>
    rw [hd] at h3 r
    obtain ⟨a, xs, e1, e2, e3⟩ := r
    cases h3
    exact .inl ⟨a, xs, by rw [e1], .inr (tup_sq e2), by rw [e3.len]; exact q _ fun _ => rfl⟩
  | str s =>
    rw [hd] at h3 r
    have h3 : (if s.length ≤ 16777216 then some (s.length : Int) else none) = some n := h3
    by_cases hs : s.length ≤ 16777216
    · rw [if_pos hs] at h3
      cases h3
      exact .inr ⟨s, by rw [show v = _ from r], by rw [sizeLine_eq]; exact hs, q _ fun _ => rfl⟩
    · rw [if_neg hs] at h3; cases h3
  | non => rw [hd] at h3; cases h3
  | bl _ => rw [hd] at h3; cases h3
  | int _ => rw [hd] at h3; cases h3
  | dic _ => rw [hd] at h3; cases h3
  | dit _ => rw [hd] at h3; cases h3
  | obj _ _ => rw [hd] at h3; cases h3
  | al _ => rw [hd] at h3; cases h3
def intsD : List D → Option (List Int)
  | [] => some []
  | .int i :: r => (intsD r).map (i :: ·)
  | _ => none
theorem intsD_eq : ∀ {ds : List D} {ns : List Int}, intsD ds = some ns → ds = ns.map D.int
  | [], ns, h => by cases h; rfl
  | .int i :: r, ns, h => by
    obtain ⟨ms, h1, h2⟩ := omap (show (intsD r).map (i :: ·) = some ns from h)
    subst h2
    rw [intsD_eq h1]; rfl
  | .non :: _, _, h => by cases h
  | .bl _ :: _, _, h => by cases h
  | .str _ :: _, _, h => by cases h
  | .lst _ :: _, _, h => by cases h
  | .tup _ :: _, _, h => by cases h
  | .dic _ :: _, _, h => by cases h
  | .dit _ :: _, _, h => by cases h
  | .obj _ _ :: _, _, h => by cases h
  | .al _ :: _, _, h => by cases h
@[simp] theorem intsD_map : ∀ ns : List Int, intsD (ns.map D.int) = some ns
  | [] => rfl
  | n :: ns => by show (intsD (ns.map D.int)).map (n :: ·) = _; rw [intsD_map ns]; rfl
theorem rpDs_ints {K : PySem.W.Frag} {G : Hp} : ∀ {ns : List Int} {vs : List V}, RpDs K G (ns.map D.int) vs → vs = ns.map V.int
  | [], vs, h => h
  | n :: ns, vs, ⟨v, r, h1, h2, h3⟩ => by rw [h1, show v = _ from h2, rpDs_ints h3]; rfl
def listD : D → Option (List D)
  | .lst ds => some ds
  | _ => none
def gSum (t : T) : Option D := (listD t.toD).bind fun ds => (intsD ds).map fun ns => .int ns.sum
theorem bi_sum : Bi1 rSum gSum := by
  intro K H t d v Q h r q
  obtain ⟨ds, h1, h2⟩ := obind h
  obtain ⟨ns, h3, h4⟩ := omap h2
  subst h4
  cases hd : t.toD <;> rw [hd] at h1 <;> cases h1
  rw [hd] at r
  obtain ⟨a, xs, e1, e2, e3⟩ := r
  rw [intsD_eq h3] at e3
  rw [rpDs_ints e3] at e2
  exact ⟨a, ns, by rw [e1], .inl e2, q _ fun _ => rfl⟩
def eI2 (g : Int → Int → Int) (fr : AF) : EF := fun env => (fr env).bind fun r => match r.1 with
  | [.p (.int i), .p (.int j)] => some (.p (.int (g i j)), r.2)
  | _ => none
section
variable {X : Cx} {e a b : Expr} {es : List Expr} {ta : TA} {fr : AF} {p pos : Pos} {x : Str}
end
def maxI (i j : Int) : Int := if j > i then j else i
def minI (i j : Int) : Int := if j < i then j else i
theorem hr_min (i j : Int) (H : Hp) (Q : VK) (q : Q (.int (minI i j)) H) : (fun (xs : List V) (H : Hp) (Q : VK) => ∃ i j, xs = [.int i, .int j] ∧ Q (.int (if j < i then j else i)) H) [.int i, .int j] H Q := ⟨i, j, rfl, q⟩
def gStr : T → Option D
  | .p (.str s) => some (.str s)
  | .p (.int i) => if i.natAbs < 1606938044258990275541962092341162602522202993782792835301376 then some (.str (toString i)) else none
  | _ => none
def rStrA (_ : PySem.W.Frag) : List V → Hp → VK → Prop := fun xs H Q => (∃ a, xs = [.str a] ∧ Q (.str a) H) ∨ ∃ i : Int, xs = [.int i] ∧ i.natAbs.log2 < 1920 ∧ Q (.str (toString i)) H
def gInt : T → Option D
  | .p (.int i) => some (.int i)
  | .p (.bl b) => some (.int (if b then 1 else 0))
  | .p (.str s) => if s.length ≤ 640 then (PySem.intText? s).map D.int else none
  | _ => none
def rIntA (_ : PySem.W.Frag) : List V → Hp → VK → Prop := fun xs H Q => ((∃ i, xs = [.int i] ∧ Q (.int i) H) ∨ ∃ k, xs = [.bl k] ∧ Q (.int (if k then 1 else 0)) H) ∨ ∃ a n, xs = [.str a] ∧ PySem.intText? a = some n ∧ a.length ≤ 640 ∧ Q (.int n) H
theorem call_intA {X : Cx} : CallR X (.type "int") (rIntA X.K) := call_int1.or call_int_str
theorem bi_int : Bi1 rIntA gInt := by
  intro K H t d v Q h r q
  unfold gInt at h
  split at h
  · cases h; exact .inl (.inl ⟨_, by rw [show v = _ from r], q _ fun _ => rfl⟩)
  · cases h; exact .inl (.inr ⟨_, by rw [show v = _ from r], q _ fun _ => rfl⟩)
  · rename_i s
    by_cases hs : s.length ≤ 640
    · rw [if_pos hs] at h
      obtain ⟨n, h1, h2⟩ := omap h
      subst h2
      exact .inr ⟨s, n, by rw [show v = _ from r], h1, hs, q _ fun _ => rfl⟩
    · rw [if_neg hs] at h; cases h
  · cases h
def tyD : D → String
  | .non => "NoneType" | .bl _ => "bool" | .int _ => "int" | .str _ => "str" | .lst _ => "list" | .tup _ => "tuple" | .dic _ => "dict" | _ => "dict"
def tyOk : D → Bool
  | .obj _ _ => false
  | .al _ => false
  | .dit _ => false
  | .dic _ => false
  | _ => true
theorem tyD_x {K : PySem.W.Frag} {H : Hp} {d : D} {v : V} (r : RpD K H d v) (hok : tyOk d = true) : TyX K H v (.type (tyD d)) := by
  cases d with
  | non => rw [show v = _ from r]; exact .base .non
  | bl b => rw [show v = _ from r]; exact .base (.bl b)
  | int i => rw [show v = _ from r]; exact .base (.int i)
  | str s => rw [show v = _ from r]; exact .base (.str s)
  | lst ds =>
    obtain ⟨a, xs, rfl, h, _⟩ := r
    rcases h with h | ⟨o, h⟩
    · exact .base (.lst h)
    · exact .base (.frz h)
  | tup ds =>
    obtain ⟨a, xs, rfl, h, _⟩ := r
    exact .base (.tup h)
  | dic ds => cases hok
  | dit _ => cases hok
  | obj _ _ => cases hok
  | al _ => cases hok
def eIsi (ty : String) (f : EF) : EF := fun env => (f env).bind fun r => if tyOk r.1.toD = true then (kitB (tyD r.1.toD) ty).map fun b => (.p (.bl b), r.2) else none
theorem dt_isi {X : Cx} {e : Expr} {te : TE} {f : EF} {p pos p2 : Pos} {ty : String} {x : Str} (hg : Gl X "isinstance") (hm : X.mg "isinstance" = none) (h : DV X e te f) (hgT : Gl X x) (hmT : X.mg x = none) (hvT : bootBuiltins x = some (.type ty))
    (hv : bootBuiltins "isinstance" = some (.builtin "isinstance") := by decide +kernel) (hs : starEach [e, .Name x p2] X.env = (false, eval e X.env) :: starEach [.Name x p2] X.env := by rfl) (hs2 : starEach [.Name x p2] X.env = (false, eval (.Name x p2) X.env) :: starEach [] X.env := by rfl) (hn : x ≠ "__name__" := by decide) (hd : (x == ("__debug__" : Str)) = false := by decide) :
    DT X (.Call (.Name "isinstance" p) [e, .Name x p2] [] pos) (tCB (rIsi X.K) (tCons te (tCons (tC (.ty ty)) tNil))) (eIsi ty f) := by
  refine ⟨pe_callB call_isi hg hm hv (pa_cons h.pe (pa_cons (pe_bltn hgT hmT hvT (show RelV (.ty ty) (.type ty) from rfl) hn hd) pa_nil hs2) hs) (by decide) (by decide) hs (by rw [hs2]; rfl), ?_⟩
  intro G0 H0 W H ts vs env σ t env' S e Q q
  obtain ⟨⟨u, e1⟩, h1, h2⟩ := obind e
  have hk : tyOk u.toD = true := by
    by_cases c : tyOk u.toD = true
    · exact c
    · rw [if_neg (show ¬ tyOk (u, e1).1.toD = true from c)] at h2; cases h2
  rw [if_pos (show tyOk (u, e1).1.toD = true from hk)] at h2
  obtain ⟨b, h3, h4⟩ := omap h2
  cases h4
  refine h.ok _ _ _ _ _ _ _ _ _ _ S h1 _ fun v H1 s1 S1 => ?_
  exact ⟨v, .ty ty, _, _, b, rfl, .ty ty, tyD_x (S1.see (q := (u, v)) (by simp)) hk, kit_ty h3, q _ H1 s1 (S1.unview.scal fun _ => rfl)⟩
def eList (f : EF) : EF := fun env => (f env).bind fun r => (itemsT r.1).map fun ds => (.lst (ds.map T.p), r.2)
def eTuple (f : EF) : EF := fun env => (f env).bind fun r => (itemsT r.1).map fun ds => (.p (.tup ds), r.2)
section
variable {X : Cx} {e a b : Expr} {te ta tb : TE} {f fa fb : EF} {p pos : Pos}
theorem dt_list (hg : Gl X "list") (hm : X.mg "list" = none) (h : DV X e te f) (hv : bootBuiltins "list" = some (.type "list") := by decide +kernel) (hs : starEach [e] X.env = (false, eval e X.env) :: starEach [] X.env := by rfl) :
    DT X (.Call (.Name "list" p) [e] [] pos) (tCB (fun xs H Q => ∃ p ys, xs = [.ref p] ∧ (SqL X.K H p ys ∨ SqT X.K H p ys) ∧ ∀ l, H l = none → Q (.ref l) (upd H l (.lst ys))) (tCons te tNil)) (eList f) := by
  refine ⟨pe_callTy call_list_of hg hm hv (pa_cons h.pe pa_nil hs) (by decide) (by decide) hs, ?_⟩
  intro G0 H0 W H ts vs env σ t env' S e Q q
  obtain ⟨⟨u, e1⟩, h1, h2⟩ := obind e
  obtain ⟨ds, h3, h4⟩ := omap h2
  cases h4
  refine h.ok _ _ _ _ _ _ _ _ _ _ S h1 _ fun v H1 s1 S1 => ?_
  obtain ⟨a, xs, rfl, k1, k2, k3, S2⟩ := S1.items h3
  refine ⟨a, xs, rfl, ?_, fun l hl => q _ _ (s1.trans (same_upd hl)) (S2.newL (by rw [List.length_map]; exact k3) hl)⟩
  cases hk : isLT u with
  | true => exact .inl (k1 hk)
  | false => exact .inr (k2 hk)
theorem dt_tuple (hg : Gl X "tuple") (hm : X.mg "tuple" = none) (h : DV X e te f) (hv : bootBuiltins "tuple" = some (.type "tuple") := by decide +kernel) (hs : starEach [e] X.env = (false, eval e X.env) :: starEach [] X.env := by rfl) :
    DT X (.Call (.Name "tuple" p) [e] [] pos) (tCB (fun xs H Q => ∃ p ys, xs = [.ref p] ∧ ((SqL X.K H p ys ∧ ∀ l, H l = none → Q (.ref l) (upd H l (.tup ys))) ∨ (SqT X.K H p ys ∧ Q (.ref p) H))) (tCons te tNil)) (eTuple f) := by
  refine ⟨pe_callTy call_tuple_of hg hm hv (pa_cons h.pe pa_nil hs) (by decide) (by decide) hs, ?_⟩
  intro G0 H0 W H ts vs env σ t env' S e Q q
  obtain ⟨⟨u, e1⟩, h1, h2⟩ := obind e
  obtain ⟨ds, h3, h4⟩ := omap h2
  cases h4
  refine h.ok _ _ _ _ _ _ _ _ _ _ S h1 _ fun v H1 s1 S1 => ?_
  obtain ⟨a, xs, rfl, k1, k2, k3, S2⟩ := S1.items h3
  cases hk : isLT u with
  | true =>
    refine ⟨a, xs, rfl, .inl ⟨k1 hk, fun l hl => ?_⟩⟩
    have S3 := S2.newT (by rw [List.length_map]; exact k3) hl
    rw [mkTup_p] at S3
    exact q _ _ (s1.trans (same_upd hl)) S3
  | false =>
    refine ⟨a, xs, rfl, .inr ⟨k2 hk, ?_⟩⟩
    obtain ⟨G, ot, oe, s⟩ := S1
    obtain ⟨o, r⟩ := s.vw (u, .ref a) (by simp)
    have rp : RpD X.K G (.tup ds) (.ref a) := by
      cases u with
      | p d => cases d <;> cases h3 <;> first | exact r.1 | cases hk
      | lst us => cases hk
      | tup us =>
        have e := allP_eq (show allP us = some ds from h3)
        subst e
        obtain ⟨a', xs', e1, e2, e3⟩ := r
        exact ⟨a', xs', e1, e2, (rpDs_of e3).1⟩
      | dic _ => cases h3
      | dit _ => cases h3
      | obj _ _ => cases h3
      | box _ _ => cases h3
      | al _ => cases h3
    exact q _ H1 s1 ⟨G, ot, oe, ⟨.ref a, vs, [], ot, rfl, ⟨rp, rfl⟩, s.tmp, rfl⟩, s.env, s.nd, s.fr, s.g0, s.gh, s.h0, s.nw, fun q hq => s.vw q (List.mem_cons_of_mem _ hq)⟩
end
end DL
set_option Elab.async false
set_option linter.all false
set_option maxRecDepth 100000
namespace DL
open PySem PySem.Spec PyProof.Rows L2
def ixT : T → Int → Option T
  | .p (.lst ds), i => (atI ds i).map T.p
  | .p (.tup ds), i => (atI ds i).map T.p
  | .p (.str z), i => if z.length ≤ 16777216 then (atI z.cps.toList i).map fun c => .p (.str ⟨#[c]⟩) else none
  | .lst ts, i => atI ts i
  | .tup ts, i => atI ts i
  | _, _ => none
section
variable {K : PySem.W.Frag} {G0 H0 H G : Hp} {W : List (T × V)} {ts : List T} {vs : List V} {env : Env} {σ : St} {t : T} {v : V}
theorem atI_ix {α : Type} {xs : List α} {i : Int} {x : α} (h : atI xs i = some x) : ∃ j, ixN xs.length i = some j ∧ xs[j]? = some x := obind h
theorem atI_of {α : Type} {xs : List α} {n : Nat} {i : Int} {j : Nat} {x : α} (h : ixN n i = some j) (hn : xs.length = n) (hx : xs[j]? = some x) : atI xs i = some x := by
  unfold atI
  rw [hn, h]; exact hx
theorem RpTs.get : ∀ {ts : List T} {vs : List V} {o : List Addr} {i : Nat} {t : T}, RpTs K G H ts vs o → ts[i]? = some t → ∃ v o1, vs[i]? = some v ∧ Rp K G H t v o1
  | [], _, _, _, _, _, e => by simp at e
  | t :: ts, _, _, 0, t', ⟨v, r, o1, o2, h1, h2, h3, h4⟩, e => by
    simp at e; subst e; subst h1; exact ⟨v, o1, rfl, h2⟩
  | t :: ts, _, _, i + 1, t', ⟨v, r, o1, o2, h1, h2, h3, h4⟩, e => by
    subst h1
    obtain ⟨u, p, h5, h6⟩ := RpTs.get (i := i) h3 (by simpa using e)
    exact ⟨u, p, by simpa using h5, h6⟩
theorem OkS.ix {i : Int} {t' : T} (S : OkS K G0 H0 ((t, v) :: W) H ts vs env σ) (h : ixT t i = some t') :
    (∃ a xs v', v = .ref a ∧ (SqL K H a xs ∨ SqT K H a xs) ∧ (isLT t = true → SqL K H a xs) ∧ atI xs i = some v' ∧ OkS K G0 H0 ((t', v') :: W) H ts vs env σ) ∨ ∃ z c, v = .str z ∧ z.length ≤ sizeLine ∧ atI z.cps.toList i = some c ∧ t' = .p (.str ⟨#[c]⟩) := by
  obtain ⟨G, ot, oe, s⟩ := S
  obtain ⟨o, r⟩ := s.vw (t, v) (by simp)
  have mk : ∀ v' o', Rp K G H t' v' o' → OkS K G0 H0 ((t', v') :: W) H ts vs env σ := fun v' o' r' => ⟨G, ot, oe, s.tmp, s.env, s.nd, s.fr, s.g0, s.gh, s.h0, s.nw, fun q hq => by
    rcases List.mem_cons.mp hq with e | hq
    · subst e; exact ⟨o', r'⟩
    · exact s.vw q (List.mem_cons_of_mem _ hq)⟩
  cases t with
  | p d =>
    cases d with
    | lst ds =>
      obtain ⟨d, h1, h2⟩ := omap (show (atI ds i).map T.p = some t' from h)
      subst h2
      obtain ⟨⟨a, xs, e1, e2, e3⟩, _⟩ := r
      obtain ⟨j, k1, k2⟩ := atI_ix h1
      obtain ⟨v', k3, k4⟩ := e3.get k2
      exact .inl ⟨a, xs, v', e1, .inl (s.gh.seq (.inl e2)), (fun _ => s.gh.seq (.inl e2)), atI_of k1 e3.len k3, mk v' [] ⟨k4, rfl⟩⟩
    | tup ds =>
      obtain ⟨d, h1, h2⟩ := omap (show (atI ds i).map T.p = some t' from h)
      subst h2
      obtain ⟨⟨a, xs, e1, e2, e3⟩, _⟩ := r
      obtain ⟨j, k1, k2⟩ := atI_ix h1
      obtain ⟨v', k3, k4⟩ := e3.get k2
      exact .inl ⟨a, xs, v', e1, .inr (tup_seq s.gh e2), (fun z => by cases z), atI_of k1 e3.len k3, mk v' [] ⟨k4, rfl⟩⟩
    | str z =>
      have h : (if z.length ≤ 16777216 then (atI z.cps.toList i).map fun c => T.p (.str ⟨#[c]⟩) else none) = some t' := h
      by_cases hz : z.length ≤ 16777216
      · rw [if_pos hz] at h
        obtain ⟨c, h1, h2⟩ := omap h
        exact .inr ⟨z, c, r.1, by rw [sizeLine_eq]; exact hz, h1, h2.symm⟩
      · rw [if_neg hz] at h; cases h
    | _ => cases h
  | lst us =>
    obtain ⟨a, xs, o', e1, e2, e3, e4⟩ := r
    obtain ⟨j, k1, k2⟩ := atI_ix (show atI us i = some t' from h)
    obtain ⟨v', o1, k3, k4⟩ := e3.get k2
    exact .inl ⟨a, xs, v', e1, .inl (.inl (.inl e2)), (fun _ => .inl (.inl e2)), atI_of k1 e3.len k3, mk v' o1 k4⟩
  | tup us =>
    obtain ⟨a, xs, e1, e2, e3⟩ := r
    obtain ⟨j, k1, k2⟩ := atI_ix (show atI us i = some t' from h)
    obtain ⟨v', o1, k3, k4⟩ := e3.get k2
    exact .inl ⟨a, xs, v', e1, .inr (tup_seq s.gh e2), (fun z => by cases z), atI_of k1 e3.len k3, mk v' o1 k4⟩
  | dic _ => cases h
  | dit _ => cases h
  | obj _ _ => cases h
  | box _ _ => cases h
  | al _ => cases h
theorem OkS.viewS {z : D} {u : V} (S : OkS K G0 H0 W H ts vs env σ) (h : ∀ G, RpD K G z u) : OkS K G0 H0 ((.p z, u) :: W) H ts vs env σ := (S.scal h).toview
end
def eIx (fa fi : EF) : EF := fun env => (fa env).bind fun r => (fi r.2).bind fun s => match s.1 with
  | .p (.int i) => (ixT r.1 i).map fun t => (t, s.2)
  | _ => none
section
variable {X : Cx} {e a b : Expr} {te ta tb : TE} {f fa fb : EF} {p pos : Pos}
theorem dv_ix (ha : DV X a ta fa) (hb : DT X b tb fb) (hs : PlainIx b := by exact fun _ _ => rfl) : DV X (.Subscript a b pos) (tOp (rIx X.K) ta tb) (eIx fa fb) := by
  refine ⟨pe_ix ix_seq ha.pe hb.pe hs, ?_⟩
  intro G0 H0 W H ts vs env σ t env' S g Q q
  obtain ⟨⟨x, e1⟩, h1, h2⟩ := obind g
  obtain ⟨⟨y, e2⟩, h3, h4⟩ := obind h2
  dsimp only at h4
  split at h4
  · rename_i i
    obtain ⟨t', h5, h6⟩ := omap h4
    cases h6
    refine ha.ok _ _ _ _ _ _ _ _ _ _ S h1 _ fun v H1 s1 S1 => ?_
    refine hb.ok _ _ _ _ _ _ _ _ _ _ S1 h3 _ fun w H2 s2 S2 => ?_
    have ew : w = .int i := S2.top
    subst ew
    rcases S2.pop.ix h5 with ⟨a, xs, v', e1, e2, _, e3, S3⟩ | ⟨z, c, e1, e2, e3, e4⟩
    · rcases e2 with e2 | e2
      · exact .inl ⟨a, xs, i, v', e1, rfl, e2, e3, q _ H2 (s1.trans s2) S3⟩
      · exact .inr (.inl ⟨a, xs, i, v', e1, rfl, e2, e3, q _ H2 (s1.trans s2) S3⟩)
    · subst e4
      exact .inr (.inr ⟨z, i, c, e1, rfl, e2, e3, q _ H2 (s1.trans s2) (S2.pop.unview.viewS fun _ => rfl)⟩)
  · cases h4
end
abbrev OF := Env → Option (Option Int × Env)
def EvO (K : PySem.W.Frag) (to : TO) (f : OF) : Prop := ∀ (G0 H0 : Hp) (W : List (T × V)) (H : Hp) (ts : List T) (vs : List V) (env : Env) (σ : St) (o : Option Int) (env' : Env), OkS K G0 H0 W H ts vs env σ → f env = some (o, env') →
  ∀ Q : Option Int → Hp → Prop, (∀ H', Same H H' → OkS K G0 H0 W H' ts vs env' σ → Q o H') → to σ H Q
structure DO (X : Cx) (e : Option Expr) (to : TO) (f : OF) : Prop where
  po : PO X e to
  ok : EvO X.K to f
def oN : OF := fun env => some (none, env)
def oS (f : EF) : OF := fun env => (f env).bind fun r => match r.1 with | .p (.int i) => some (some i, r.2) | _ => none
def cutD (ds : List D) (lo hi : Option Int) : List D := (ds.drop (HT.sIx ds.length 0 lo)).take (HT.sIx ds.length ds.length hi - HT.sIx ds.length 0 lo)
def cutT (t : T) (lo hi : Option Int) : Option T := match t with
  | .p (.str z) => if z.length ≤ 16777216 then some (.p (.str (cutS z lo hi))) else none
  | .p (.lst ds) => some (.lst ((cutD ds lo hi).map T.p))
  | .lst ts => (allP ts).map fun ds => .lst ((cutD ds lo hi).map T.p)
  | .p (.tup ds) => if HT.sIx ds.length 0 lo = 0 ∧ HT.sIx ds.length ds.length hi = ds.length then none else some (.p (.tup (cutD ds lo hi)))
  | _ => none
def eSl (fa : EF) (lo hi : OF) : EF := fun env => (fa env).bind fun r => (lo r.2).bind fun l => (hi l.2).bind fun u => (cutT r.1 l.1 u.1).map fun t => (t, u.2)
theorem RpDs.cut {K : PySem.W.Frag} {G : Hp} {ds : List D} {xs : List V} (h : RpDs K G ds xs) (lo hi : Option Int) : RpDs K G (cutD ds lo hi) (cutV xs lo hi) := by
  unfold cutD cutV
  rw [h.len]
  exact (h.drop _).take _
def rSlA (K : PySem.W.Frag) : V → Option Int → Option Int → Hp → VK → Prop := fun x lo hi H Q => rSlL K x lo hi H Q ∨ rSlT K x lo hi H Q ∨ rSlS x lo hi H Q
theorem sl_any {X : Cx} : SlR X (rSlA X.K) := sl_list.or (sl_tup.or sl_str)
section
variable {X : Cx} {e : Expr} {te : TE} {f : EF} {lo hi : Option Expr} {tl th : TO} {fl fh : OF} {pos p2 : Pos}
theorem do_none : DO X none tNoPart oN := ⟨po_none, fun _ _ _ H _ _ _ _ _ _ S e Q q => by cases e; exact q H (Same.refl _) S⟩
theorem do_some (h : DT X e te f) : DO X (some e) (tPart te) (oS f) := by
  refine ⟨po_some h.pe, ?_⟩
  intro G0 H0 W H ts vs env σ o env' S g Q q
  obtain ⟨⟨x, e1⟩, h1, h2⟩ := obind g
  dsimp only at h2
  split at h2
  · rename_i i
    cases h2
    exact h.ok _ _ _ _ _ _ _ _ _ _ S h1 _ fun v H1 s1 S1 => ⟨i, S1.top, q H1 s1 S1.pop⟩
  · cases h2
theorem dt_sl (h : DV X e te f) (hl : DO X lo tl fl) (hh : DO X hi th fh) : DT X (.Subscript e (.Slice lo hi none p2) pos) (tSl (rSlA X.K) te tl th) (eSl f fl fh) := by
  refine ⟨pe_slice sl_any h.pe hl.po hh.po, ?_⟩
  intro G0 H0 W H ts vs env σ t env' S g Q q
  obtain ⟨⟨x, e1⟩, h1, h2⟩ := obind g
  obtain ⟨⟨l, e2⟩, h3, h4⟩ := obind h2
  obtain ⟨⟨u, e3⟩, h5, h6⟩ := obind h4
  obtain ⟨t', h7, h8⟩ := omap h6
  cases h8
  refine h.ok _ _ _ _ _ _ _ _ _ _ S h1 _ fun v H1 s1 S1 => ?_
  refine hl.ok _ _ _ _ _ _ _ _ _ _ S1 h3 _ fun H2 s2 S2 => ?_
  refine hh.ok _ _ _ _ _ _ _ _ _ _ S2 h5 _ fun H3 s3 S3 => ?_
  have s13 := (s1.trans s2).trans s3
  have lst : ∀ ds, itemsT x = some ds → isLT x = true → t = .lst ((cutD ds l u).map T.p) → rSlA X.K v l u H3 Q := fun ds hi hL ht => by
    obtain ⟨G, ot, oe, s⟩ := S3
    obtain ⟨o, r⟩ := s.vw (x, v) (by simp)
    have s' : St0 X.K G0 H0 W G H3 ts vs _ σ ot oe := ⟨s.tmp, s.env, s.nd, s.fr, s.g0, s.gh, s.h0, s.nw, fun q hq => s.vw q (List.mem_cons_of_mem _ hq)⟩
    obtain ⟨a, xs, rfl, k1, _, _, _⟩ := OkS.items ⟨G, ot, oe, s⟩ hi
    have rp : ∃ xs, SqL X.K H3 a xs ∧ RpDs X.K G ds xs := by
      cases x with
      | p d =>
        cases d with
        | lst ds' =>
          cases hi
          obtain ⟨⟨a', xs', e1, e2, e3⟩, _⟩ := r
          cases e1
          exact ⟨xs', s.gh.seq (.inl e2), e3⟩
        | tup ds' => cases hL
        | _ => cases hi
      | lst us =>
        have e := allP_eq (show allP us = some ds from hi)
        subst e
        obtain ⟨a', xs', o', e1, e2, e3, e4⟩ := r
        cases e1
        exact ⟨xs', .inl (.inl e2), (rpDs_of e3).1⟩
      | tup us => cases hL
      | dic _ => cases hi
      | dit _ => cases hi
      | obj _ _ => cases hi
      | box _ _ => cases hi
      | al _ => cases hi
    obtain ⟨xs, hx, hr⟩ := rp
    refine .inl ⟨a, xs, rfl, hx, fun p hp => ?_⟩
    subst ht
    have hc := hr.cut l u
    exact q _ _ (s13.trans (same_upd hp)) (OkS.newL (by rw [List.length_map]; exact hc.len) (OkS.pushD s' hc) hp)
  have h7 : cutT x l u = some t := h7
  cases x with
  | p d =>
    cases d with
    | str z =>
      have h7 : (if z.length ≤ 16777216 then some (T.p (.str (cutS z l u))) else none) = some t := h7
      by_cases hz : z.length ≤ 16777216
      · rw [if_pos hz] at h7
        cases h7
        exact .inr (.inr ⟨z, (S3.see (q := (T.p (.str z), v)) (by simp)), by rw [sizeLine_eq]; exact hz, q _ H3 s13 (S3.unview.scal fun _ => rfl)⟩)
      · rw [if_neg hz] at h7; cases h7
    | lst ds =>
      cases h7
      exact lst ds rfl rfl rfl
    | tup ds =>
      have h7 : (if HT.sIx ds.length 0 l = 0 ∧ HT.sIx ds.length ds.length u = ds.length then none else some (T.p (.tup (cutD ds l u)))) = some t := h7
      by_cases hw : HT.sIx ds.length 0 l = 0 ∧ HT.sIx ds.length ds.length u = ds.length
      · rw [if_pos hw] at h7; cases h7
      · rw [if_neg hw] at h7
        cases h7
        obtain ⟨G, ot, oe, s⟩ := S3
        obtain ⟨o, r⟩ := s.vw (.p (.tup ds), v) (by simp)
        have s' : St0 X.K G0 H0 W G H3 ts vs _ σ ot oe := ⟨s.tmp, s.env, s.nd, s.fr, s.g0, s.gh, s.h0, s.nw, fun q hq => s.vw q (List.mem_cons_of_mem _ hq)⟩
        obtain ⟨⟨a, xs, e1, e2, e3⟩, _⟩ := r
        refine .inr (.inl ⟨a, xs, e1, tup_seq s.gh e2, by rw [e3.len]; exact hw, fun p hp => ?_⟩)
        have hc := e3.cut l u
        have S4 := OkS.newT (by rw [List.length_map]; exact hc.len) (OkS.pushD s' hc) hp
        rw [mkTup_p] at S4
        exact q _ _ (s13.trans (same_upd hp)) S4
    | _ => cases h7
  | lst us =>
    obtain ⟨ds, k1, k2⟩ := omap (show (allP us).map (fun ds => T.lst ((cutD ds l u).map T.p)) = some t from h7)
    exact lst ds k1 rfl k2.symm
  | _ => cases h7
end
section
variable {K : PySem.W.Frag} {G0 H0 H : Hp} {W : List (T × V)} {ts : List T} {vs : List V} {env : Env} {σ : St} {t : T} {v : V}
theorem OkS.wrL {us es : List T} {ws : List V} (S : OkS K G0 H0 W H (.lst us :: (es ++ ts)) (v :: (ws ++ vs)) env σ) (hw : ws.length = es.length) : ∃ a xs, v = .ref a ∧ H a = some (.lst xs) ∧ xs.length = us.length ∧
    ∀ (us' : List T) (xs' : List V), (∀ (G : Hp) (o1 o2 : List Addr), RpTs K G H us xs o1 → RpTs K G H es ws o2 → ∃ o' r, RpTs K G H us' xs' o' ∧ (o1 ++ o2).Perm (o' ++ r)) → OkS K G0 H0 [] (upd H a (.lst xs')) (.lst us' :: ts) (.ref a :: vs) env σ := by
  obtain ⟨G, ot, oe, s⟩ := S
  obtain ⟨v0, r0, oa, ob, h1, ⟨a, xs, o1, e1, e2, e3, e4⟩, h3, h4⟩ := s.tmp
  cases h1
  obtain ⟨o2, o3, k1, k2, k3⟩ := h3.split hw
  refine ⟨a, xs, e1, e2, e3.len, fun us' xs' hf => ?_⟩
  obtain ⟨o', r, f1, f2⟩ := hf G o1 o2 e3 k1
  have pm : (ot ++ oe).Perm (a :: (o' ++ (o3 ++ oe)) ++ r) := by
    rw [h4, e4, k3]
    have q1 : (a :: o1 ++ (o2 ++ o3) ++ oe) = a :: ((o1 ++ o2) ++ (o3 ++ oe)) := by simp
    rw [q1, List.cons_append]
    refine List.Perm.cons a ?_
    refine (List.Perm.append_right _ f2).trans ?_
    rw [List.append_assoc, List.append_assoc]
    exact List.Perm.append_left _ List.perm_append_comm
  have nd := (List.nodup_append.mp (pm.nodup_iff.mp s.nd)).1
  have na : ∀ b ∈ o' ++ (o3 ++ oe), b ≠ a := fun b hb e => by
    subst e
    exact (List.nodup_cons.mp nd).1 hb
  have kp : ∀ b ∈ o' ++ (o3 ++ oe), upd H a (.lst xs') b = H b := fun b hb => upd_ne (na b hb)
  have fr : ∀ b ∈ a :: (o' ++ (o3 ++ oe)), G b = none ∧ H0 b = none := fun b hb => s.fr b (pm.mem_iff.mpr (List.mem_append_left _ hb))
  refine ⟨G, a :: o' ++ o3, oe, ⟨.ref a, vs, a :: o', o3, rfl, ⟨a, xs', o', rfl, upd_same, f1.mono (Same.refl _) _ (fun b hb => kp b (by simp [hb])), rfl⟩, k2.mono (Same.refl _) _ (fun b hb => kp b (by simp [hb])), rfl⟩, s.env.mono (Same.refl _) _ (fun b hb => kp b (by simp [hb])), by simpa using nd, fun b hb => fr b (by simpa using hb), s.g0, fun b u e => ?_, fun b u e => ?_, s.nw, fun q hq => by cases hq⟩
  · have : b ≠ a := fun z => by subst z; rw [(fr b (by simp)).1] at e; cases e
    rw [upd_ne this]; exact s.gh b u e
  · have : b ≠ a := fun z => by subst z; rw [(fr b (by simp)).2] at e; cases e
    rw [upd_ne this]; exact s.h0 b u e
theorem RpTs.set {G : Hp} : ∀ {ts : List T} {vs : List V} {o : List Addr} {i : Nat} {t : T} {v : V} {o1 : List Addr}, RpTs K G H ts vs o → i < ts.length → Rp K G H t v o1 → ∃ o' r, RpTs K G H (ts.set i t) (vs.set i v) o' ∧ (o ++ o1).Perm (o' ++ r)
  | [], _, _, _, _, _, _, _, hi, _ => by simp at hi
  | u :: us, _, _, 0, t, v, o1, ⟨w, r, p1, p2, h1, h2, h3, h4⟩, _, h => by
    subst h1; subst h4
    refine ⟨o1 ++ p2, p1, ⟨v, r, o1, p2, rfl, h, h3, rfl⟩, ?_⟩
    rw [List.append_assoc]
    refine List.perm_append_comm.trans ?_
    exact List.Perm.append_right _ List.perm_append_comm
  | u :: us, _, _, i + 1, t, v, o1, ⟨w, r, p1, p2, h1, h2, h3, h4⟩, hi, h => by
    subst h1; subst h4
    obtain ⟨o', r', g1, g2⟩ := RpTs.set (i := i) h3 (by simpa using hi) h
    refine ⟨p1 ++ o', r', ⟨w, _, p1, o', rfl, h2, g1, rfl⟩, ?_⟩
    rw [List.append_assoc, List.append_assoc]
    exact List.Perm.append_left _ g2
end
def sApp (i : Nat) (f : EF) : SF := fun env => match env[i]? with
  | some (some (.lst _)) => (f env).bind fun r => match r.2[i]? with
    | some (some (.lst us)) => if us.length < 16000000 then some (.nx, r.2.set i (some (.lst (us ++ [r.1])))) else none
    | _ => none
  | _ => none
section
variable {X : Cx} {e : Expr} {te : TE} {f : EF} {pos cpos apos npos : Pos}
theorem ds_app (i : Nat) {x : Str} (h : DT X e te f) (hN : X.N[i]? = some x := by rfl) (hv : Vis X.env.scope x := by first | exact Or.inl rfl | exact Or.inr (Or.inl rfl) | exact Or.inr (Or.inr rfl)) (hd : (x == ("__debug__" : Str)) = false := by decide) (hcd : (x == ("__classdict__" : Str)) = false := by decide)
    (hse : starEach [e] X.env = (false, eval e X.env) :: starEach [] X.env := by rfl)
    (hfew : ((backTo cpos (starEach [e] X.env)).all (fun x => !x.1) && (backToKw cpos (keywordEach [] X.env)).all (fun x => x.1.isSome)
      && decide ([e].length + ([] : List Keyword).length + (if ([] : List Keyword).isEmpty then 0 else 1) < 30)) = true := by rfl)
    (hline : (apos.endLine == cpos.line) = true := by rfl)
    (hs : swapsWith (.Call (.Attribute (.Name x npos) "append" apos) [e] [] cpos) none pos.line X.env = pure false := by rfl) :
    DS X (.Expr (.Call (.Attribute (.Name x npos) "append" apos) [e] [] cpos) pos) (tDrop (tBM X.K "list" rAppend (tVar i) (tCons te tNil))) (sApp i f) [] := by
  refine ⟨ps_expr (pe_bm PySem.F.plainAttrs_list PySem.F.slot_list_append PySem.F.type_list_append mt_append (pe_var hN hv hd hcd) (pa_cons h.pe pa_nil hse) rfl hfew hline hse rfl) hs, ?_⟩
  intro G0 H0 H ts vs env σ fl env' S g D q
  unfold sApp at g
  split at g
  · rename_i us0 he
    obtain ⟨⟨t, e1⟩, g1, g2⟩ := obind g
    dsimp only at g2
    split at g2
    · rename_i us he1
      by_cases hl : us.length < 16000000
      · rw [if_pos hl] at g2
        cases g2
        obtain ⟨v, hv1, S1⟩ := S.look he
        obtain ⟨a0, xs0, ev, hq0, _⟩ : ∃ a xs, v = .ref a ∧ SqL X.K H a xs ∧ True := by
          obtain ⟨a, xs, k1, k2, _⟩ := S1.see (q := (T.lst us0, v)) (by simp)
          exact ⟨a, xs, k1, .inl k2, trivial⟩
        subst ev
        refine ⟨.ref a0, hv1, .inl ⟨rfl, _, hq0⟩, ?_⟩
        refine h.ok _ _ _ _ _ _ _ _ _ _ S g1 _ fun w H1 s1 S2 => ?_
        obtain ⟨v2, hv2, S3⟩ := S2.get he1
        rw [hv1] at hv2
        cases hv2
        obtain ⟨a, xs, k1, k2, k3, k4⟩ := OkS.wrL (es := [t]) (ws := [w]) S3 rfl
        cases k1
        refine ⟨a0, xs, w, rfl, rfl, k2, by rw [k3, sizeLine_eq]; omega, ?_⟩
        have S4 := k4 (us ++ [t]) (xs ++ [w]) fun G o1 o2 r1 r2 => ⟨o1 ++ o2, [], r1.append r2, by simp⟩
        have hlen : i < e1.length := (List.getElem?_eq_some_iff.mp he1).1
        have S5 := S4.put (i := i) (by simpa using hlen)
        rw [List.set_set, set_back hv1] at S5
        exact q _ _ S5 .rfl'
      · rw [if_neg hl] at g2; cases g2
    · cases g2
  · cases g
end
def asI : T → Option Int
  | .p (.int i) => some i
  | _ => none
theorem asI_eq {t : T} {i : Int} (h : asI t = some i) : t = .p (.int i) := by
  unfold asI at h
  split at h
  · cases h; rfl
  · cases h
def atL (env : Env) (i : Nat) : Option (List T) := match env[i]? with
  | some (some (.lst us)) => some us
  | _ => none
theorem atL_eq {env : Env} {i : Nat} {us : List T} (h : atL env i = some us) : env[i]? = some (some (.lst us)) := by
  unfold atL at h
  split at h
  · rename_i h'; cases h; exact h'
  · cases h
def sPut (i : Nat) (fj f : EF) : SF := fun env => (f env).bind fun r => (atL r.2 i).bind fun _ => (fj r.2).bind fun s => (asI s.1).bind fun j => (atL s.2 i).bind fun us =>
  (ixN us.length j).map fun k => (.nx, s.2.set i (some (.lst (us.set k r.1))))
def sAugIx (i : Nat) (h : Int → Int → Int) (fj f : EF) : SF := fun env => (atL env i).bind fun _ => (fj env).bind fun s => (asI s.1).bind fun j => if 0 ≤ j then (atL s.2 i).bind fun us => (atI us j).bind fun t => (asI t).bind fun x =>
  (f s.2).bind fun r => (asI r.1).bind fun y => (atL r.2 i).bind fun us2 => (ixN us2.length j).map fun k => (.nx, r.2.set i (some (.lst (us2.set k (.p (.int (h x y)))))))
  else none
end DL
set_option Elab.async false
set_option linter.all false
set_option maxRecDepth 100000
namespace DL
open PySem PySem.Spec PyProof.Rows L2
section
variable {X : Cx}
def rGetL (K : PySem.W.Frag) : V → V → Hp → VK → Prop := fun o i H Q => ∃ p xs k v, o = .ref p ∧ i = .int k ∧ SqL K H p xs ∧ 0 ≤ k ∧ atI xs k = some v ∧ Q v H
theorem get_list : PGet X (rGetL X.K) := by
  intro pins s σ H o i ov iv Q I ro ri h
  obtain ⟨p, xs, k, z, rfl, rfl, hq, h0, he, q⟩ := h
  cases ro
  obtain ⟨t, rfl⟩ := ri
  obtain ⟨its, r, pl, hz⟩ := I.list hq
  obtain ⟨j, h1, h2, h3, h4, h5⟩ := atI_get he
  obtain ⟨w, ew, rw'⟩ := r.get h2
  have hl := r.length
  have hn := line63
  have hj : k.toNat = j := by
    rw [seqIndex_of h0 h5] at h1
    exact Option.some.inj h1
  exact wpAny_getItem_list pl.isList h0 (by omega) (by rw [hj]; simpa using ew) ⟨z, H, I, rw', q⟩
end
section
variable {X : Cx} {e j : Expr} {te tj : TE} {f fj : EF} {pos npos ipos : Pos}
theorem ds_put (i : Nat) {x : Str} (h : DT X e te f) (hj : DT X j tj fj) (hN : X.N[i]? = some x := by rfl) (hv : Vis X.env.scope x := by first | exact Or.inl rfl | exact Or.inr (Or.inl rfl) | exact Or.inr (Or.inr rfl)) (hd : (x == ("__debug__" : Str)) = false := by decide) (hcd : (x == ("__classdict__" : Str)) = false := by decide)
    (ha : ∀ v, assign (.Subscript (.Name x npos) j ipos) X.env v = (do
      let ov ← holding [v] (eval (.Name x npos) X.env)
      let iv ← holding [v, ov] (eval j X.env)
      standAt ipos
      holding [v, ov, iv] (setItem ov iv v)
      release [v, ov, iv] []) := by intro _; rfl) (hs : swapsWithSole [.Subscript (.Name x npos) j ipos] e pos.line X.env = pure false := by rfl) (hw : swappedStores [.Subscript (.Name x npos) j ipos] e X.env = pure none := by rfl)
    (h1 : (assignEach [.Subscript (.Name x npos) j ipos] X.env).map (·.2) = [assign (.Subscript (.Name x npos) j ipos) X.env] := by rfl) :
    DS X (.Assign [.Subscript (.Name x npos) j ipos] e pos) (tAsg te (gSub (tVar i) tj rSetL)) (sPut i fj f) [] := by
  refine ⟨ps_asg h.pe (pg_sub (pe_var hN hv hd hcd) hj.pe set_list ha) hs hw h1, ?_⟩
  intro G0 H0 H ts vs env σ fl env' S g D q
  obtain ⟨⟨t, e1⟩, g1, g2⟩ := obind g
  obtain ⟨us, g3, g4⟩ := obind g2
  have he1 := atL_eq g3
  obtain ⟨⟨y, e2⟩, g5, g6⟩ := obind g4
  obtain ⟨k, g7, g8⟩ := obind g6
  have ey : y = .p (.int k) := asI_eq g7
  subst ey
  obtain ⟨us', g9, g10⟩ := obind g8
  have he2 := atL_eq g9
  obtain ⟨m, g11, g12⟩ := omap g10
  cases g12
  refine h.ok _ _ _ _ _ _ _ _ _ _ S g1 _ fun w H1 s1 S1 => ?_
  obtain ⟨v, hv1, S2⟩ := S1.look he1
  refine ⟨v, hv1, ?_⟩
  refine hj.ok _ _ _ _ _ _ _ _ _ _ S2.unview g5 _ fun z H2 s2 S3 => ?_
  have ez : z = .int k := S3.top
  subst ez
  obtain ⟨v2, hv2, S4⟩ := S3.pop.get he2
  rw [hv1] at hv2
  cases hv2
  obtain ⟨a, xs, k1, k2, k3, k4⟩ := OkS.wrL (es := [t]) (ws := [w]) S4 rfl
  cases k1
  have g11 : ixN us'.length k = some m := g11
  refine ⟨a, xs, k, m, rfl, rfl, k2, by rw [k3]; exact g11, ?_⟩
  have hm : m < us'.length := (ixN_seq g11).2.1
  have S5 := k4 (us'.set m t) (xs.set m w) fun G o1 o2 r1 r2 => by
    obtain ⟨v', r', p1, p2, q1, q2, q3, q4⟩ := r2
    cases q1
    have q3 : _ ∧ p2 = [] := q3
    obtain ⟨o', r, f1, f2⟩ := r1.set (i := m) hm q2
    exact ⟨o', r, f1, by rw [q4, q3.2, List.append_nil]; exact f2⟩
  have hlen : i < e2.length := (List.getElem?_eq_some_iff.mp he2).1
  have S6 := S5.put (i := i) (by simpa using hlen)
  rw [List.set_set, set_back hv1] at S6
  exact q _ _ S6 .rfl'
def sAug (i : Nat) (g : D → D → Option D) (f : EF) : SF := fun env => match env[i]? with
  | some (some (.p a)) => (f env).bind fun r => match r.1 with
    | .p b => (g a b).bind fun d => if i < r.2.length then some (.nx, r.2.set i (some (.p d))) else none
    | _ => none
  | _ => none
end
end DL
set_option Elab.async false
set_option linter.all false
set_option maxRecDepth 100000
namespace DL
open PySem PySem.Spec PyProof.Rows L2
def wipeE (env : Env) : List Nat → Env
  | [] => env
  | v :: vs => (wipeE env vs).set v none
theorem wipeE_some {env : Env} {j : Nat} {t : T} : ∀ {vs : List Nat}, (wipeE env vs)[j]? = some (some t) → j ∉ vs ∧ env[j]? = some (some t)
  | [], h => ⟨by simp, h⟩
  | v :: vs, h => by
    unfold wipeE at h
    by_cases hj : v = j
    · subst hj
      by_cases hl : v < (wipeE env vs).length
      · rw [List.getElem?_set_self hl] at h; cases h
      · rw [List.getElem?_eq_none (by simpa using hl)] at h; cases h
    · rw [List.getElem?_set_ne hj] at h
      obtain ⟨h1, h2⟩ := wipeE_some h
      exact ⟨by simp [h1, Ne.symm hj], h2⟩
section
variable {K : PySem.W.Frag} {G0 H0 H G H' : Hp} {W : List (T × V)} {ts : List T} {vs : List V} {env : Env} {σ σ' : St} {t : T} {v : V}
theorem RpE.slots : ∀ {es : Env} {σ σ' : St} {o : List Addr}, RpE K G H es σ o → σ'.length = σ.length → (∀ (j : Nat) (t : T), es[j]? = some (some t) → σ'[j]? = σ[j]?) → RpE K G H es σ' o
  | [], σ, σ', o, ⟨h, h2⟩, hl, _ => by
    subst h
    cases σ' with
    | nil => exact ⟨rfl, h2⟩
    | cons _ _ => simp at hl
  | none :: es, _, σ', o, ⟨x, r, h1, h2⟩, hl, hk => by
    subst h1
    cases σ' with
    | nil => simp at hl
    | cons y σ' => exact ⟨y, σ', rfl, RpE.slots h2 (by simpa using hl) fun j t e => by simpa using hk (j + 1) t (by simpa using e)⟩
  | some u :: es, _, σ', o, ⟨x, r, o1, o2, h1, h2, h3, h4⟩, hl, hk => by
    subst h1
    cases σ' with
    | nil => simp at hl
    | cons y σ' =>
      have e : y = some x := by simpa using hk 0 u rfl
      subst e
      exact ⟨x, σ', o1, o2, rfl, h2, RpE.slots h3 (by simpa using hl) (fun j t e => by simpa using hk (j + 1) t (by simpa using e)), h4⟩
theorem OkS.slots (S : OkS K G0 H0 W H ts vs env σ) (hl : σ'.length = σ.length) (hk : ∀ (j : Nat) (t : T), env[j]? = some (some t) → σ'[j]? = σ[j]?) : OkS K G0 H0 W H ts vs env σ' := by
  obtain ⟨G, ot, oe, s⟩ := S
  exact ⟨G, ot, oe, s.tmp, s.env.slots hl hk, s.nd, s.fr, s.g0, s.gh, s.h0, s.nw, s.vw⟩
theorem OkS.forget1 (S : OkS K G0 H0 W H ts vs env σ) (i : Nat) : OkS K G0 H0 W H ts vs (env.set i none) σ := by
  obtain ⟨G, ot, oe, s⟩ := S
  obtain ⟨o1, o2, h, pm⟩ := s.env.drop i
  have pm2 : (ot ++ oe).Perm (o1 ++ (ot ++ o2)) := (List.Perm.append_left ot pm).trans (perm_mid _ _ _)
  exact ⟨G, ot, o2, s.tmp, h, (List.nodup_append.mp (pm2.nodup_iff.mp s.nd)).2.1, fun a ha => s.fr a (pm2.mem_iff.mpr (List.mem_append_right _ ha)), s.g0, s.gh, s.h0, s.nw, s.vw⟩
theorem OkS.forget (S : OkS K G0 H0 W H ts vs env σ) : ∀ l : List Nat, OkS K G0 H0 W H ts vs (wipeE env l) σ
  | [] => S
  | i :: l => (OkS.forget S l).forget1 i
theorem wipe_out' {σ : St} {j : Nat} : ∀ {l : List Nat}, j ∉ l → (wipe σ l)[j]? = σ[j]?
  | [], _ => rfl
  | v :: l, h => by
    simp only [List.mem_cons, not_or] at h
    unfold wipe
    rw [List.getElem?_set_ne (Ne.symm h.1)]
    exact wipe_out' h.2
theorem wipe_in {σ : St} {j : Nat} : ∀ {l : List Nat}, j ∈ l → j < σ.length → (wipe σ l)[j]? = some none
  | [], h, _ => by cases h
  | v :: l, h, hl => by
    unfold wipe
    by_cases e : v = j
    · subst e
      rw [List.getElem?_set_self (by rw [wipe_length]; exact hl)]
    · rw [List.getElem?_set_ne e]
      rcases List.mem_cons.mp h with z | z
      · exact absurd z.symm e
      · exact wipe_in z hl
theorem wipe_eq {σ σ' : St} {l : List Nat} (hl : σ'.length = σ.length) (h : ∀ j, j ∉ l → σ'[j]? = σ[j]?) : wipe σ' l = wipe σ l := by
  apply List.ext_getElem?
  intro j
  by_cases hj : j ∈ l
  · by_cases hlt : j < σ.length
    · rw [wipe_in hj hlt, wipe_in hj (by omega)]
    · rw [List.getElem?_eq_none (by rw [wipe_length]; omega), List.getElem?_eq_none (by rw [wipe_length]; omega)]
  · rw [wipe_out' hj, wipe_out' hj]; exact h j hj
theorem OkS.toWipe (S : OkS K G0 H0 W H ts vs env σ) (l : List Nat) : OkS K G0 H0 W H ts vs (wipeE env l) (wipe σ l) :=
  (S.forget l).slots (wipe_length _ _) fun j t e => wipe_out' (wipeE_some e).1
theorem OkS.fixV (S : OkS K G0 H0 W H ts vs env σ) : ∃ G1, Gst G0 H0 G1 ∧ (∀ q ∈ W, ∃ o, Rp K G1 H q.1 q.2 o) ∧ OkS K G1 H0 [] H ts vs env σ := by
  obtain ⟨G, ot, oe, s⟩ := S
  refine ⟨G, ⟨s.g0, s.nw⟩, s.vw, G, ot, oe, s.tmp, s.env, s.nd, s.fr, Same.refl _, s.gh, s.h0, fun a o e => .inl (by rw [e]; simp), fun q hq => by cases hq⟩
theorem OkS.reV {G1 : Hp} (S : OkS K G1 H0 [] H' ts vs env σ) (h : ∀ q ∈ W, ∃ o, Rp K G1 H q.1 q.2 o) (s1 : Same H H') : OkS K G1 H0 W H' ts vs env σ := by
  obtain ⟨G, ot, oe, s⟩ := S
  refine ⟨G, ot, oe, s.tmp, s.env, s.nd, s.fr, s.g0, s.gh, s.h0, s.nw, fun q hq => ?_⟩
  obtain ⟨o, r⟩ := h q hq
  refine ⟨o, r.mono s.g0 _ fun a ha => ?_⟩
  obtain ⟨u, e, _⟩ := r.there _ a ha
  rw [e, s1 a u e]
end
theorem ItOk.mono {K : PySem.W.Frag} {G1 G2 : Hp} {J : It} {ds : List D} (I : ItOk K G1 J ds) (s : Same G1 G2) : ItOk K G2 J ds where
  go := fun i H h hi => I.go i H (s.trans h) hi
  stop := fun H h => I.stop H (s.trans h)
  yld := fun i H x H' d h hd y => by
    rcases I.yld i H x H' d (s.trans h) hd y with ⟨e, r⟩ | ⟨p, xs, es, h1, h2, h3, h4, h5⟩
    · exact .inl ⟨e, RpD.mono s _ r⟩
    · exact .inr ⟨p, xs, es, h1, h2, h3, h4, RpDs.mono s _ h5⟩
def compD (own : List Nat) (G : GF) (test : CF) (elt : EF) : List D → Env → Option (List T × Env)
  | [], env => some ([], env)
  | d :: ds, env => (G (.p d) env).bind fun e1 => (test e1).bind fun r => if r.1 then (elt r.2).bind fun s => (compD own G test elt ds (wipeE s.2 own)).map fun z => (s.1 :: z.1, z.2)
    else compD own G test elt ds (wipeE r.2 own)
def eComp (own : List Nat) (f : IF) (G : GF) (test : CF) (elt : EF) : EF := fun env => (f env).bind fun r => if r.1.length ≤ 1000000 then (compD own G test elt r.1 (wipeE r.2 own)).map fun z => (.lst z.1, z.2) else none
theorem ev_comp {K : PySem.W.Frag} {wi : TI} {fi : IF} {g : TG} {G : GF} {sl own : List Nat} {tt : TT} {ct : CF} {te : TE} {fe : EF} (hI : EvI K wi fi) (hg : EvG K g G sl) (hsl : ∀ j ∈ sl, j ∈ own) (ht : EvC K tt ct) (he : EvT K te fe) : EvT K (tLc wi g tt te own) (eComp own fi G ct fe) := by
  intro G0 H0 W H ts vs env σ t env' S e Q q
  obtain ⟨⟨ds, e1⟩, g1, g2⟩ := obind e
  by_cases hlen : ds.length ≤ 1000000
  · rw [if_pos hlen] at g2
    obtain ⟨⟨us, e2⟩, g3, g4⟩ := omap g2
    cases g4
    refine hI _ _ _ _ _ _ _ _ _ _ S g1 _ fun J H1 G1 s1 gst I S1 => ?_
    obtain ⟨G2, gst2, hv, S2⟩ := S1.fixV
    have I2 := I.mono gst2.s
    intro D hD
    have S3 : OkS K G2 H0 [] (upd H1 D (.lst [])) (.lst [] :: ts) (.ref D :: vs) (wipeE e1 own) (wipe σ own) := (OkS.newL (us := []) (ws := []) rfl S2 hD).toWipe own
    refine ⟨fun i m H => m = ds.length - i ∧ i ≤ ds.length ∧ Same H1 H ∧ ∃ env acc rest, OkS K G2 H0 [] H (.lst acc :: ts) (.ref D :: vs) env (wipe σ own) ∧ compD own G ct fe (ds.drop i) env = some (rest, e2) ∧ us = acc ++ rest ∧ acc.length ≤ i ∧ (∀ (j : Nat) (t : T), env[j]? = some (some t) → j ∉ own),
      ⟨ds.length, by simp, Nat.zero_le _, same_upd hD, wipeE e1 own, [], us, S3, by simpa using g3, rfl, Nat.le_refl _, fun j t e => (wipeE_some e).1⟩, ?_⟩
    rintro i m Hi ⟨rfl, hle, sm, envi, acc, rest, Si, hc, hu, ha, hw0⟩
    by_cases hlt : i < ds.length
    · refine .inr ⟨I2.go i Hi Si.same hlt, fun H' => i + 1 ≤ ds.length ∧ Same H1 H' ∧ ∃ env acc rest, OkS K G2 H0 [] H' (.lst acc :: ts) (.ref D :: vs) env (wipe σ own) ∧ compD own G ct fe (ds.drop (i + 1)) env = some (rest, e2) ∧ us = acc ++ rest ∧ acc.length ≤ i + 1 ∧ (∀ (j : Nat) (t : T), env[j]? = some (some t) → j ∉ own), fun H' ⟨h1, h2⟩ => ⟨ds.length - (i + 1), by omega, rfl, h1, h2⟩, fun x H3 y => ?_⟩
      obtain ⟨s3, S4⟩ := I2.item Si (List.getElem?_eq_getElem hlt) y
      rw [List.drop_eq_getElem_cons hlt] at hc
      obtain ⟨e3, l1, l2⟩ := obind hc
      obtain ⟨⟨b, e4⟩, l3, l4⟩ := obind l2
      refine hg _ _ _ _ _ _ _ _ _ _ _ S4 l1 _ fun σ2 S5 dif => ?_
      have hw : wipe σ2 own = wipe σ own := by
        refine wipe_eq (dif.1.trans (wipe_length _ _)) fun j hj => (dif.2 j fun z => hj (hsl j z)).trans (wipe_out' hj)
      have again : ∀ {H4 : Hp} {e5 : Env} {acc' : List T}, OkS K G2 H0 [] H4 (.lst acc' :: ts) (.ref D :: vs) e5 σ2 → OkS K G2 H0 [] H4 (.lst acc' :: ts) (.ref D :: vs) (wipeE e5 own) (wipe σ own) := fun S => by
        rw [← hw]; exact S.toWipe own
      refine ⟨hw, ?_⟩
      refine ht _ _ _ _ _ _ _ _ _ _ S5 l3 _ fun H4 s4 S6 => ?_
      cases b with
      | false =>
        rw [if_neg Bool.false_ne_true]
        exact ⟨hlt, (sm.trans s3).trans s4, _, acc, rest, again S6, l4, hu, by omega, fun j t e => (wipeE_some e).1⟩
      | true =>
        rw [if_pos rfl]
        obtain ⟨⟨u, e5⟩, l5, l6⟩ := obind (show (fe e4).bind (fun s => (compD own G ct fe (ds.drop (i + 1)) (wipeE s.2 own)).map fun z => (s.1 :: z.1, z.2)) = some (rest, e2) from l4)
        obtain ⟨⟨zs, e6⟩, l7, l8⟩ := omap l6
        cases l8
        refine he _ _ _ _ _ _ _ _ _ _ S6 l5 _ fun y H5 s5 S7 => ?_
        have S8 : OkS K G2 H0 [] H5 (.lst acc :: ([u] ++ ts)) (.ref D :: ([y] ++ vs)) e5 σ2 := OkS.mid (us := [u]) (ws := [y]) rfl S7 |> fun S => by
          have := OkS.mid (us := [u]) (ws := [y]) (x := .lst acc) (y := .ref D) rfl S7
          exact this
        obtain ⟨a, xs, k1, k2, k3, k4⟩ := OkS.wrL (es := [u]) (ws := [y]) S8 rfl
        cases k1
        refine ⟨xs, k2, by rw [k3, sizeLine_eq]; omega, hlt, ?_, _, acc ++ [u], zs, again (k4 (acc ++ [u]) (xs ++ [y]) fun G o1 o2 r1 r2 => ⟨o1 ++ o2, [], r1.append r2, by simp⟩), l7, by rw [hu]; simp, by simp; omega, fun j t e => (wipeE_some e).1⟩
        intro b ob eb
        have : b ≠ D := fun z => by rw [z, hD] at eb; cases eb
        rw [upd_ne this]
        exact s5 b ob (s4 b ob (s3 b ob (sm b ob eb)))
    · have hi' : i = ds.length := by omega
      subst hi'
      rw [List.drop_length] at hc
      cases hc
      rw [List.append_nil] at hu
      subst hu
      have Sf : OkS K G2 H0 W Hi (.lst us :: ts) (.ref D :: vs) e2 σ := (Si.slots (by rw [wipe_length]) fun j t e => (wipe_out' (hw0 j t e)).symm).reV hv sm
      exact .inl ⟨I2.stop Hi Si.same, q _ Hi (s1.trans sm) ((Sf.back gst2).back gst)⟩
  · rw [if_neg hlen] at g2; cases g2
end DL
set_option Elab.async false
set_option linter.all false
set_option maxRecDepth 100000
namespace DL
open PySem PySem.Spec PyProof.Rows L2
structure DTs (X : Cx) (es : List Expr) (t : TT) (c : CF) : Prop where
  pt : PTs X es t
  ok : EvC X.K t c
def cYes : CF := fun env => some (true, env)
theorem dts_nil {X : Cx} : DTs X [] tYes cYes := ⟨pts_nil, fun _ _ _ H _ _ _ _ _ _ S e Q q => by cases e; exact q H (Same.refl _) S⟩
theorem dts_one {X : Cx} {e : Expr} {t : TT} {c : CF} (h : DC X e t c) : DTs X [e] t c := ⟨pts_one h.pt, h.ok⟩
def teW (K : PySem.W.Frag) (f : EF) : TE := fun σ H Q => ∃ (G0 H0 : Hp) (W : List (T × V)) (ts : List T) (vs : List V) (env : Env) (t : T) (env' : Env), OkS K G0 H0 W H ts vs env σ ∧ f env = some (t, env') ∧ ∀ v H', Same H H' → OkS K G0 H0 W H' (t :: ts) (v :: vs) env' σ → Q v H'
def ttW (K : PySem.W.Frag) (f : CF) : TT := fun σ H Q => ∃ (G0 H0 : Hp) (W : List (T × V)) (ts : List T) (vs : List V) (env : Env) (c : Bool) (env' : Env), OkS K G0 H0 W H ts vs env σ ∧ f env = some (c, env') ∧ ∀ H', Same H H' → OkS K G0 H0 W H' ts vs env' σ → Q c H'
theorem ev_teW {K : PySem.W.Frag} {f : EF} : EvT K (teW K f) f := fun G0 H0 W H ts vs env σ t env' S e Q q => ⟨G0, H0, W, ts, vs, env, t, env', S, e, q⟩
theorem ev_ttW {K : PySem.W.Frag} {f : CF} : EvC K (ttW K f) f := fun G0 H0 W H ts vs env σ t env' S e Q q => ⟨G0, H0, W, ts, vs, env, t, env', S, e, q⟩
theorem pe_W {X : Cx} {e : Expr} {te : TE} {f : EF} (h : DT X e te f) : PE X e (teW X.K f) := ⟨fun pins s σ H Q I ⟨_, _, _, _, _, _, _, _, S, g, q⟩ => h.pe.run pins s σ H Q I (h.ok _ _ _ _ _ _ _ _ _ _ S g Q q)⟩
theorem pts_W {X : Cx} {e : List Expr} {te : TT} {f : CF} (h : DTs X e te f) : PTs X e (ttW X.K f) := ⟨fun pins s σ H Q I ⟨_, _, _, _, _, _, _, _, S, g, q⟩ => h.pt.run pins s σ H Q I (h.ok _ _ _ _ _ _ _ _ _ _ S g Q q)⟩
def tgW (K : PySem.W.Frag) (G : GF) (sl : List Nat) : TG := fun x σ H Q => ∃ (G0 H0 : Hp) (W : List (T × V)) (ts : List T) (vs : List V) (env : Env) (d : T) (env' : Env), OkS K G0 H0 W H (d :: ts) (x :: vs) env σ ∧ G d env = some env' ∧ ∀ σ', OkS K G0 H0 W H ts vs env' σ' → Dif sl σ σ' → Q σ' H
theorem ev_tgW {K : PySem.W.Frag} {G : GF} {sl : List Nat} : EvG K (tgW K G sl) G sl := fun G0 H0 W H ts vs env σ d x env' S e Q q => ⟨G0, H0, W, ts, vs, env, d, env', S, e, q⟩
theorem pg_W {X : Cx} {e : Expr} {g : TG} {G : GF} {sl : List Nat} (h : DG X e g G sl) : PG X e (tgW X.K G sl) := ⟨fun pins s σ H v u Q I r ⟨_, _, _, _, _, _, _, _, S, g, q⟩ => h.pg.run pins s σ H v u Q I r (h.ok _ _ _ _ _ _ _ _ _ _ _ S g Q q)⟩
section
variable {X : Cx} {elt tg iter : Expr} {ifs : List Expr} {scope : Scope} {own : List (Str × Nat)} {pos spos py : Pos} {wi : TI} {fi : IF} {g : Shared → Hp → Addr → List (Str × Addr) → List Addr → TG} {G : GF} {sl : List Nat} {tt : Shared → Hp → Addr → List (Str × Addr) → List Addr → TT} {ct : CF} {te : Shared → Hp → Addr → List (Str × Addr) → List Addr → TE} {fe : EF} {i : Nat} {y : Str}
theorem dt_comp (hc : X.calm = true) (hN : X.N.Nodup) (hi : DI X tg iter wi fi) (ok : BlkOk X.N X.env.scope scope own)
    (hg : ∀ (s : Shared) (H : Hp) (C : Addr) (cl : List (Str × Addr)) (fp : List Addr), DG (X.blk s H scope (compEnvC scope cl C X.env) fp) tg (g s H C cl fp) G sl) (ht : ∀ (s : Shared) (H : Hp) (C : Addr) (cl : List (Str × Addr)) (fp : List Addr), DTs (X.blk s H scope (compEnvC scope cl C X.env) fp) ifs (tt s H C cl fp) ct)
    (he : ∀ (s : Shared) (H : Hp) (C : Addr) (cl : List (Str × Addr)) (fp : List Addr), DT (X.blk s H scope (compEnvC scope cl C X.env) fp) elt (te s H C cl fp) fe) (hsl : ∀ j ∈ sl, j ∈ own.map (·.2) := by decide) (hs : ∀ x, foldedSetIterable iter X.env x = pure x := by intro _; rfl) :
    DT X (.ListComp elt [⟨tg, iter, ifs, 0⟩] scope pos) (tLc wi (tgW X.K G sl) (ttW X.K ct) (teW X.K fe) (own.map (·.2))) (eComp (own.map (·.2)) fi G ct fe) :=
  ⟨pe_lc hc hN hi.pi ok (fun s H C cl fp => pg_W (hg s H C cl fp)) (fun s H C cl fp => pts_W (ht s H C cl fp)) (fun s H C cl fp => pe_W (he s H C cl fp)) hs,
    ev_comp hi.ok ev_tgW hsl ev_ttW ev_teW⟩
theorem ds_setLc (hc : X.calm = true) (hN : X.N.Nodup) (hy : X.N[i]? = some y) (hyl : X.env.scope.names.lookup y = some .local)
    (hsw : swapsWith (.ListComp elt [⟨tg, iter, ifs, 0⟩] scope pos) (some (.Name y py)) spos.line X.env = pure true) (hi : DI X tg iter wi fi) (ok : BlkOk X.N X.env.scope scope own)
    (hg : ∀ (s : Shared) (H : Hp) (C : Addr) (cl : List (Str × Addr)) (fp : List Addr), DG (X.blk s H scope (compEnvC scope cl C X.env) fp) tg (g s H C cl fp) G sl) (ht : ∀ (s : Shared) (H : Hp) (C : Addr) (cl : List (Str × Addr)) (fp : List Addr), DTs (X.blk s H scope (compEnvC scope cl C X.env) fp) ifs (tt s H C cl fp) ct)
    (he : ∀ (s : Shared) (H : Hp) (C : Addr) (cl : List (Str × Addr)) (fp : List Addr), DT (X.blk s H scope (compEnvC scope cl C X.env) fp) elt (te s H C cl fp) fe) (hsl : ∀ j ∈ sl, j ∈ own.map (·.2) := by decide) (hs : ∀ x, foldedSetIterable iter X.env x = pure x := by intro _; rfl) :
    DS X (.Assign [.Name y py] (.ListComp elt [⟨tg, iter, ifs, 0⟩] scope pos) spos) (tAsg (tLc wi (tgW X.K G sl) (ttW X.K ct) (teW X.K fe) (own.map (·.2))) (gName i)) (sSet i (eComp (own.map (·.2)) fi G ct fe)) [i] :=
  ⟨ps_setLc hc hN hy hyl hsw hi.pi ok (fun s H C cl fp => pg_W (hg s H C cl fp)) (fun s H C cl fp => pts_W (ht s H C cl fp)) (fun s H C cl fp => pe_W (he s H C cl fp)) hs,
    evs_set (ev_comp hi.ok ev_tgW hsl ev_ttW ev_teW)⟩
end
def enumD : Nat → List D → List D
  | _, [] => []
  | i, d :: ds => .tup [.int (i : Int), d] :: enumD (i + 1) ds
theorem enumD_len : ∀ (i : Nat) (ds : List D), (enumD i ds).length = ds.length
  | _, [] => rfl
  | i, d :: ds => by rw [enumD, List.length_cons, enumD_len, List.length_cons]
theorem enumD_get : ∀ (ds : List D) (k i : Nat) (d : D), (enumD k ds)[i]? = some d → ∃ x, ds[i]? = some x ∧ d = .tup [.int ((k + i : Nat) : Int), x]
  | [], _, _, _, h => by simp [enumD] at h
  | x :: ds, k, 0, d, h => by
    simp [enumD] at h
    exact ⟨x, rfl, h.symm⟩
  | x :: ds, k, i + 1, d, h => by
    obtain ⟨y, h1, h2⟩ := enumD_get ds (k + 1) i d (by simpa [enumD] using h)
    exact ⟨y, by simpa using h1, by rw [h2]; congr 4; omega⟩
def zipD : List D → List D → List D
  | d :: ds, e :: es => .tup [d, e] :: zipD ds es
  | _, _ => []
theorem zipD_len : ∀ (ds es : List D), (zipD ds es).length = min ds.length es.length
  | [], es => by simp [zipD]
  | d :: ds, [] => by simp [zipD]
  | d :: ds, e :: es => by rw [zipD, List.length_cons, zipD_len, List.length_cons, List.length_cons]; omega
theorem zipD_get : ∀ (ds es : List D) (i : Nat) (d : D), (zipD ds es)[i]? = some d → ∃ x y, ds[i]? = some x ∧ es[i]? = some y ∧ d = .tup [x, y]
  | [], es, i, d, h => by simp [zipD] at h
  | x :: ds, [], i, d, h => by simp [zipD] at h
  | x :: ds, y :: es, 0, d, h => by
    simp [zipD] at h
    exact ⟨x, y, rfl, rfl, h.symm⟩
  | x :: ds, y :: es, i + 1, d, h => by
    obtain ⟨a, b, h1, h2, h3⟩ := zipD_get ds es i d (by simpa [zipD] using h)
    exact ⟨a, b, by simpa using h1, by simpa using h2, h3⟩
def signsD (s : Str) : List D := s.cps.toList.map fun c => .str ⟨#[c]⟩
section
variable {K : PySem.W.Frag} {G1 : Hp} {a b : Addr} {ds es : List D} {xs ys : List V}
theorem itOk_e (h : SqL K G1 a xs) (hr : RpDs K G1 ds xs) : ItOk K G1 (Ite K a) (enumD 0 ds) where
  go := fun i H s hi => by
    rw [enumD_len] at hi
    exact ⟨xs, xs[i]'(by rw [hr.len]; exact hi), s.seq h, List.getElem?_eq_getElem _⟩
  stop := fun H s => ⟨xs, s.seq h, by rw [hr.len, enumD_len]; exact Nat.le_refl _⟩
  yld := fun i H x H' d s hd y => by
    obtain ⟨p, z, e1, e2, e3, e4⟩ := y
    obtain ⟨w, h1, h2⟩ := enumD_get _ _ _ _ hd
    obtain ⟨v, h3, h4⟩ := hr.get h1
    have := e4 xs (s.seq h)
    rw [h3] at this
    cases this
    refine .inr ⟨p, _, _, e2, e3, e1, h2, ?_⟩
    exact ⟨_, _, rfl, by rw [Nat.zero_add]; exact rfl, z, [], rfl, h4, rfl⟩
theorem itOk_z (h : SqL K G1 a xs) (h' : SqL K G1 b ys) (hr : RpDs K G1 ds xs) (hr' : RpDs K G1 es ys) : ItOk K G1 (Itz K a b) (zipD ds es) where
  go := fun i H s hi => by
    rw [zipD_len] at hi
    exact ⟨xs, ys, xs[i]'(by rw [hr.len]; omega), ys[i]'(by rw [hr'.len]; omega), s.seq h, s.seq h', List.getElem?_eq_getElem _, List.getElem?_eq_getElem _⟩
  stop := fun H s => ⟨xs, ys, s.seq h, s.seq h', by rw [hr.len, hr'.len, zipD_len]; omega⟩
  yld := fun i H x H' d s hd y => by
    obtain ⟨p, z, w, e1, e2, e3, e4, e5⟩ := y
    obtain ⟨u, v, h1, h2, h3⟩ := zipD_get _ _ _ _ hd
    obtain ⟨z', h4, h5⟩ := hr.get h1
    obtain ⟨w', h6, h7⟩ := hr'.get h2
    have q1 := e4 xs (s.seq h)
    have q2 := e5 ys (s.seq h')
    rw [h4] at q1
    rw [h6] at q2
    cases q1
    cases q2
    exact .inr ⟨p, _, _, e2, e3, e1, h3, z, _, rfl, h5, w, [], rfl, h7, rfl⟩
theorem itOk_zt (h : SqT K G1 a xs) (h' : SqT K G1 b ys) (hr : RpDs K G1 ds xs) (hr' : RpDs K G1 es ys) : ItOk K G1 (RZ.ItzT K a b) (zipD ds es) where
  go := fun i H s hi => by
    rw [zipD_len] at hi
    exact ⟨xs, ys, xs[i]'(by rw [hr.len]; omega), ys[i]'(by rw [hr'.len]; omega), Same.sqT s h, Same.sqT s h', List.getElem?_eq_getElem _, List.getElem?_eq_getElem _⟩
  stop := fun H s => ⟨xs, ys, Same.sqT s h, Same.sqT s h', by rw [hr.len, hr'.len, zipD_len]; omega⟩
  yld := fun i H x H' d s hd y => by
    obtain ⟨p, z, w, e1, e2, e3, e4, e5⟩ := y
    obtain ⟨u, v, h1, h2, h3⟩ := zipD_get _ _ _ _ hd
    obtain ⟨z', h4, h5⟩ := hr.get h1
    obtain ⟨w', h6, h7⟩ := hr'.get h2
    have q1 := e4 xs (Same.sqT s h)
    have q2 := e5 ys (Same.sqT s h')
    rw [h4] at q1
    rw [h6] at q2
    cases q1
    cases q2
    exact .inr ⟨p, _, _, e2, e3, e1, h3, z, _, rfl, h5, w, [], rfl, h7, rfl⟩
end
def iEn (f : AF) : IF := fun env => (f env).bind fun r => match r.1 with
  | [.p (.lst ds)] => some (enumD 0 ds, r.2)
  | _ => none
def iZp (f : AF) : IF := fun env => (f env).bind fun r => match r.1 with
  | [.p (.lst ds), .p (.lst es)] => some (zipD ds es, r.2)
  | [.p (.tup ds), .p (.tup es)] => some (zipD ds es, r.2)
  | _ => none
def iSg (f : EF) : IF := fun env => (f env).bind fun r => match r.1 with
  | .p (.str z) => some (signsD z, r.2)
  | _ => none
section
variable {X : Cx} {tg e e2 : Expr} {te : TE} {ta : TA} {f : EF} {fa : AF} {p pos tpos : Pos} {elts : List Expr} {kk : Nat}
theorem di_enum (hg : Gl X "enumerate") (hm : X.mg "enumerate" = none) (h : DA X [e] ta fa) (hs : starEach [e] X.env = [(false, eval e X.env)] := by rfl) :
    DI X (.Tuple elts kk tpos) (.Call (.Name "enumerate" p) [e] [] pos) (iEnum X.K ta) (iEn fa) := by
  refine ⟨pi_enum hg hm h.pa hs, ?_⟩
  intro G0 H0 W H ts vs env σ ds env' S g R r
  obtain ⟨⟨us, e1⟩, g1, g2⟩ := obind g
  refine h.ok _ _ _ _ _ _ _ _ _ _ S g1 _ fun ws H1 s1 hl S1 => ?_
  dsimp only at g2
  split at g2
  · rename_i es
    cases g2
    match ws, hl with
    | [w1], _ =>
      obtain ⟨G1, gst, sG, ⟨a, xs, q1, q2, q3⟩, S2⟩ := OkS.fixTop (show OkS X.K G0 H0 W H1 (.p (.lst es) :: ts) (w1 :: vs) _ σ from S1)
      exact ⟨a, xs, by rw [q1], sG.seq (.inl q2), r _ _ G1 s1 gst (itOk_e (.inl q2) q3) S2⟩
  · cases g2
theorem di_zip (hg : Gl X "zip") (hm : X.mg "zip" = none) (h : DA X [e, e2] ta fa) (hs : starEach [e, e2] X.env = (false, eval e X.env) :: starEach [e2] X.env := by rfl) (hpl : (backTo pos (starEach [e2] X.env)).any (·.1) = false := by rfl) :
    DI X (.Tuple elts kk tpos) (.Call (.Name "zip" p) [e, e2] [] pos) (RZ.iZipA X.K ta) (iZp fa) := by
  refine ⟨RZ.pi_zipA hg hm h.pa hs hpl, ?_⟩
  intro G0 H0 W H ts vs env σ ds env' S g R r
  obtain ⟨⟨us, e1⟩, g1, g2⟩ := obind g
  refine h.ok _ _ _ _ _ _ _ _ _ _ S g1 _ fun ws H1 s1 hl S1 => ?_
  dsimp only at g2
  split at g2
  · rename_i d1 d2
    cases g2
    match ws, hl with
    | [w1, w2], _ =>
      obtain ⟨G1, gst, sG, ⟨a, xs, q1, q2, q3⟩, S2⟩ := OkS.fixTop (show OkS X.K G0 H0 W H1 (.p (.lst d1) :: (.p (.lst d2) :: ts)) (w1 :: (w2 :: vs)) _ σ from S1)
      obtain ⟨G2, gst2, sG2, ⟨b, ys, r1, r2, r3⟩, S3⟩ := OkS.fixTop S2
      refine ⟨a, b, xs, ys, by rw [q1, r1], .inl ⟨sG.seq (.inl q2), sG2.seq (.inl r2), r _ _ G2 s1 ⟨gst.s.trans gst2.s, fun a o e => ?_⟩ (itOk_z (gst2.s.seq (.inl q2)) (.inl r2) (RpDs.mono gst2.s _ q3) r3) S3⟩⟩
      rcases gst2.nw a o e with h | h | h
      · cases q : G1 a with
        | none => exact absurd q h
        | some u =>
          have := gst2.s a u q
          rw [e] at this; cases this
          exact gst.nw a o q
      · exact .inr (.inl h)
      · exact .inr (.inr h)
  · rename_i d1 d2
    cases g2
    match ws, hl with
    | [w1, w2], _ =>
      obtain ⟨G1, gst, sG, ⟨a, xs, q1, q2, q3⟩, S2⟩ := OkS.fixTop (show OkS X.K G0 H0 W H1 (.p (.tup d1) :: (.p (.tup d2) :: ts)) (w1 :: (w2 :: vs)) _ σ from S1)
      obtain ⟨G2, gst2, sG2, ⟨b, ys, r1, r2, r3⟩, S3⟩ := OkS.fixTop S2
      refine ⟨a, b, xs, ys, by rw [q1, r1], .inr ⟨tup_seq sG q2, tup_seq sG2 r2, r _ _ G2 s1 ⟨gst.s.trans gst2.s, fun a o e => ?_⟩ (itOk_zt (tup_seq gst2.s q2) (tup_sq r2) (RpDs.mono gst2.s _ q3) r3) S3⟩⟩
      rcases gst2.nw a o e with h | h | h
      · cases q : G1 a with
        | none => exact absurd q h
        | some u =>
          have := gst2.s a u q
          rw [e] at this; cases this
          exact gst.nw a o q
      · exact .inr (.inl h)
      · exact .inr (.inr h)
  · cases g2
end
def gAdd : D → D → Option D
  | .int i, .int j => some (.int (i + j))
  | .str s, .str t => if s.length + t.length ≤ 16777216 then some (.str (s ++ t)) else none
  | _, _ => none
def rAddA : R2 := fun x y H Q => (rI0 fun i j => .int (i + j)) x y H Q ∨ ∃ i j, x = .str i ∧ y = .str j ∧ i.length + j.length ≤ sizeLine ∧ Q (.str (i ++ j)) H
theorem op_addA {X : Cx} : OpR X (binaryOp .Add) rAddA := OpR.or op_add op_add_str
theorem sc_add : Sc2 rAddA gAdd := by
  intro a b d h K H v w Q hv hw q
  unfold gAdd at h
  split at h
  · cases h; exact .inl ⟨_, _, hv, hw, q _ fun _ => rfl⟩
  · rename_i s t
    by_cases hs : s.length + t.length ≤ 16777216
    · rw [if_pos hs] at h; cases h
      exact .inr ⟨s, t, hv, hw, by rw [sizeLine_eq]; exact hs, q _ fun _ => rfl⟩
    · rw [if_neg hs] at h; cases h
  · cases h
end DL
set_option Elab.async false
set_option linter.all false
set_option maxRecDepth 100000
namespace DL
open PySem PySem.Spec PyProof.Rows L2
def gSub : D → D → Option D := gI (fun _ _ => true) fun i j => i - j
def gAddI : D → D → Option D := gI (fun _ _ => true) fun i j => i + j
def gMul : D → D → Option D := gI mulOk fun i j => i * j
def gDiv : D → D → Option D := gI divOk fun i j => i / j
def gMod : D → D → Option D := gI modOk fun i j => i % j
def gPow : D → D → Option D := gI powOk fun i j => i ^ j.toNat
theorem modOk_ok {i j : Int} (h : modOk i j = true) : 0 < j := of_decide_eq_true h
def cLt : D → D → Option Bool := cmI fun i j => decide (i < j)
def cLe : D → D → Option Bool := cmI fun i j => decide (i ≤ j)
def cGt : D → D → Option Bool := cmI fun i j => decide (j < i)
def cGe : D → D → Option Bool := cmI fun i j => decide (j ≤ i)
def bLt (i j : Int) : Bool := decide (i < j)
def bLe (i j : Int) : Bool := decide (i ≤ j)
def bGt (i j : Int) : Bool := decide (j < i)
def bGe (i j : Int) : Bool := decide (j ≤ i)
def eNeg (f : EF) : EF := fun env => (f env).bind fun r => match r.1 with | .p (.int i) => some (.p (.int (-i)), r.2) | _ => none
section
variable {X : Cx} {a b e : Expr} {ta tb te : TE} {fa fb f : EF} {pos npos : Pos} {i : Nat} {x : Str}
theorem dt_add (ha : DT X a ta fa) (hb : DT X b tb fb) : DT X (.BinOp a .Add b pos) (tOp rAddA ta tb) (eOp gAdd fa fb) := dt_op op_addA sc_add ha hb
theorem dt_sub (ha : DT X a ta fa) (hb : DT X b tb fb) : DT X (.BinOp a .Sub b pos) (tOp (rI0 fun i j => .int (i - j)) ta tb) (eOp gSub fa fb) := dt_op op_sub sc_int0 ha hb
theorem dt_mul (ha : DT X a ta fa) (hb : DT X b tb fb) : DT X (.BinOp a .Mult b pos) (tOp (rI IntMulOk fun i j => .int (i * j)) ta tb) (eOp gMul fa fb) := dt_op op_mulB (sc_int fun _ _ h => mulOk_ok h) ha hb
theorem dt_div (ha : DT X a ta fa) (hb : DT X b tb fb) : DT X (.BinOp a .FloorDiv b pos) (tOp (rI CDivW fun i j => .int (i / j)) ta tb) (eOp gDiv fa fb) := dt_op op_fdivW (sc_int fun _ _ h => divOk_ok h) ha hb
theorem dt_mod (ha : DT X a ta fa) (hb : DT X b tb fb) : DT X (.BinOp a .Mod b pos) (tOp (rI (fun _ j => 0 < j) fun i j => .int (i % j)) ta tb) (eOp gMod fa fb) := dt_op op_mod (sc_int fun _ _ h => modOk_ok h) ha hb
theorem dt_pow (ha : DT X a ta fa) (hb : DT X b tb fb) : DT X (.BinOp a .Pow b pos) (tOp (rI CPow fun i j => .int (i ^ j.toNat)) ta tb) (eOp gPow fa fb) := dt_op op_pow (sc_int fun _ _ h => powOk_ok h) ha hb
theorem dt_eq (hu : X.A.units + 64 < cLine) (ha : DV X a ta fa) (hb : DV X b tb fb) : DT X (.Compare a [.Eq] [b] pos) (tOp (rEqA X.K) ta tb) (eCmp eqQ fa fb) := dt_cmp (op_eqA hu) cm_eq ha hb (nomark _)
theorem dt_is (ha : DV X a ta fa) (hb : DV X b tb fb) : DT X (.Compare a [.Is] [b] pos) (tOp (rIsA X.K) ta tb) (eCmp isN fa fb) := dt_cmp op_isA cm_is ha hb (nomark _)
theorem dc_lt (ha : DV X a ta fa) (hb : DV X b tb fb) : DC X (.Compare a [.Lt] [b] pos) (tTest (tOp (rI0 fun i j => .bl (decide (i < j))) ta tb)) (cT (eCmp cLt fa fb)) := dc_cmp (r := fun _ => rI0 fun i j => .bl (decide (i < j))) op_lt cm_int ha hb (nomark _)
theorem dc_gt (ha : DV X a ta fa) (hb : DV X b tb fb) : DC X (.Compare a [.Gt] [b] pos) (tTest (tOp (rI0 fun i j => .bl (decide (j < i))) ta tb)) (cT (eCmp cGt fa fb)) := dc_cmp (r := fun _ => rI0 fun i j => .bl (decide (j < i))) op_gt cm_int ha hb (nomark _)
theorem dc_eq (hu : X.A.units + 64 < cLine) (ha : DV X a ta fa) (hb : DV X b tb fb) : DC X (.Compare a [.Eq] [b] pos) (tTest (tOp (rEqA X.K) ta tb)) (cT (eCmp eqQ fa fb)) := dc_cmp (op_eqA hu) cm_eq ha hb (nomark _)
theorem dc_ne (hu : X.A.units + 64 < cLine) (ha : DV X a ta fa) (hb : DV X b tb fb) : DC X (.Compare a [.NotEq] [b] pos) (tTest (tOp (rNeA X.K) ta tb)) (cT (eCmp neQ fa fb)) := dc_cmp (op_neA hu) cm_ne ha hb (nomark _)
theorem dc_is (ha : DV X a ta fa) (hb : DV X b tb fb) : DC X (.Compare a [.Is] [b] pos) (tTest (tOp (rIsA X.K) ta tb)) (cT (eCmp isN fa fb)) := dc_cmp op_isA cm_is ha hb (nomark _)
theorem dc_in (ha : DV X a ta fa) (hb : DV X b tb fb) (hm : behindInMarks .In b = false := by with_unfolding_all rfl) : DC X (.Compare a [.In] [b] pos) (tTest (tOp (rInA X.K) ta tb)) (cT (eCmp inQ fa fb)) := dc_cmp op_inA cm_in ha hb hm
theorem dc_notIn (ha : DV X a ta fa) (hb : DV X b tb fb) (hm : behindInMarks .NotIn b = false := by with_unfolding_all rfl) : DC X (.Compare a [.NotIn] [b] pos) (tTest (tOp (rNotInA X.K) ta tb)) (cT (eCmp notInQ fa fb)) := dc_cmp op_notInA cm_notIn ha hb hm
theorem dt_len (hg : Gl X "len") (hm : X.mg "len" = none) (h : DV X a ta fa) (hs : starEach [a] X.env = (false, eval a X.env) :: starEach [] X.env := by rfl) : DT X (.Call (.Name "len" npos) [a] [] pos) (tCB (rLenA X.K) (tCons ta tNil)) (eB1 gLen fa) := dt_b1 call_lenA bi_len hg hm PySem.boot_len h hs
theorem dt_sum (hc : X.calm = true) (hg : Gl X "sum") (hm : X.mg "sum" = none) (h : DV X a ta fa) (hv : bootBuiltins "sum" = some (.builtin "sum") := by decide +kernel) (hs : starEach [a] X.env = (false, eval a X.env) :: starEach [] X.env := by rfl) : DT X (.Call (.Name "sum" npos) [a] [] pos) (tCB (rSum X.K) (tCons ta tNil)) (eB1 gSum fa) := dt_b1 (cr_sum hc) bi_sum hg hm hv h hs
theorem dt_int1 (hg : Gl X "int") (hm : X.mg "int" = none) (h : DV X a ta fa) (hv : bootBuiltins "int" = some (.type "int") := by decide +kernel) (hs : starEach [a] X.env = (false, eval a X.env) :: starEach [] X.env := by rfl) : DT X (.Call (.Name "int" npos) [a] [] pos) (tCB (rIntA X.K) (tCons ta tNil)) (eB1 gInt fa) := dt_ty1 call_intA bi_int hg hm hv h hs
end
theorem end_law {K : PySem.W.Frag} {H : Hp} {a : Addr} {ns : List Int} {φ : List D → Option T} (h : φ [.lst (ns.map D.int)] = some (.p (.bl true))) (hS : Rd H a (.lst (ns.map V.int))) {E : XK} : spD 1 φ K [.ref a] H (fun v _ => v = .bl true) E := by
  refine ⟨[.lst (ns.map D.int)], _, H, rfl, h, Same.refl _, ⟨.ref a, [], rfl, ⟨a, _, rfl, hS, ?_⟩, rfl⟩, fun v G' H' o _ _ _ r _ _ _ => r.1⟩
  have gen : ∀ ns : List Int, RpDs K H (ns.map D.int) (ns.map V.int) := fun ns => by
    induction ns with
    | nil => rfl
    | cons n ns ih => exact ⟨.int n, _, rfl, rfl, ih⟩
  exact gen ns
end DL
set_option Elab.async false
set_option linter.all false
set_option maxRecDepth 100000
namespace DL
open PySem PySem.Spec PyProof.Rows L2
def EvVs (K : PySem.W.Frag) (ta : TA) (f : AF) : Prop := ∀ (G0 H0 : Hp) (W : List (T × V)) (H : Hp) (ts : List T) (vs : List V) (env : Env) (σ : St) (us : List T) (env' : Env), OkS K G0 H0 W H ts vs env σ → f env = some (us, env') →
  ∀ Q : List V → Hp → Prop, (∀ ws H', Same H H' → ws.length = us.length → OkS K G0 H0 (us.zip ws ++ W) H' ts vs env' σ → Q ws H') → ta σ H Q
structure DVs (X : Cx) (es : List Expr) (ta : TA) (f : AF) : Prop where
  pa : PA X es ta
  ok : EvVs X.K ta f
section
variable {X : Cx} {e : Expr} {es : List Expr} {te : TE} {tr : TA} {f : EF} {fr : AF}
theorem OkS.views {K : PySem.W.Frag} {G0 H0 H : Hp} {W W' : List (T × V)} {ts : List T} {vs : List V} {env : Env} {σ : St} (S : OkS K G0 H0 W H ts vs env σ) (h : ∀ q ∈ W', q ∈ W) : OkS K G0 H0 W' H ts vs env σ := by
  obtain ⟨G, ot, oe, s⟩ := S
  exact ⟨G, ot, oe, s.tmp, s.env, s.nd, s.fr, s.g0, s.gh, s.h0, s.nw, fun q hq => s.vw q (h q hq)⟩
theorem dvs_nil : DVs X [] tNil aN := by
  refine ⟨pa_nil, ?_⟩
  intro G0 H0 W H ts vs env σ us env' S e Q q
  cases e
  exact q [] H (Same.refl _) rfl S
theorem dvs_cons (h : DV X e te f) (hr : DVs X es tr fr) (hs : starEach (e :: es) X.env = (false, eval e X.env) :: starEach es X.env := by rfl) : DVs X (e :: es) (tCons te tr) (aC f fr) := by
  refine ⟨pa_cons h.pe hr.pa hs, ?_⟩
  intro G0 H0 W H ts vs env σ us env' S g Q q
  obtain ⟨⟨x, e1⟩, h1, h2⟩ := obind g
  obtain ⟨⟨y, e2⟩, h3, h4⟩ := omap h2
  cases h4
  refine h.ok _ _ _ _ _ _ _ _ _ _ S h1 _ fun v H1 s1 S1 => ?_
  refine hr.ok _ _ _ _ _ _ _ _ _ _ S1 h3 _ fun ws H2 s2 hl S2 => ?_
  refine q (v :: ws) H2 (s1.trans s2) (by simp [hl]) (S2.views fun q hq => ?_)
  simp only [List.zip_cons_cons, List.cons_append, List.mem_cons, List.mem_append] at hq ⊢
  rcases hq with h | h | h
  · exact .inr (.inl h)
  · exact .inl h
  · exact .inr (.inr h)
end
mutual
def cleanT : T → Bool
  | .p .non => true
  | .p (.bl _) => true
  | .p (.int _) => true
  | .p (.str _) => true
  | .p _ => false
  | .lst ts => cleanTs ts
  | .tup _ => false
  | _ => false
def cleanTs : List T → Bool
  | [] => true
  | t :: ts => cleanT t && cleanTs ts
end
section
variable {K : PySem.W.Frag} {G G' H : Hp}
mutual
theorem Rp.clean : ∀ {t : T} {v : V} {o : List Addr}, cleanT t = true → Rp K G H t v o → Rp K G' H t v o
  | .p .non, _, _, _, h => h
  | .p (.bl _), _, _, _, h => h
  | .p (.int _), _, _, _, h => h
  | .p (.str _), _, _, _, h => h
  | .p (.lst _), _, _, c, _ => by cases c
  | .p (.tup _), _, _, c, _ => by cases c
  | .p (.dic _), _, _, c, _ => by cases c
  | .p (.dit _), _, _, c, _ => by cases c
  | .p (.obj _ _), _, _, c, _ => by cases c
  | .p (.al _), _, _, c, _ => by cases c
  | .lst ts, _, _, c, ⟨a, vs, o', h1, h2, h3, h4⟩ => ⟨a, vs, o', h1, h2, RpTs.clean (show cleanTs ts = true from c) h3, h4⟩
  | .tup _, _, _, c, _ => by cases c
  | .dic _, _, _, c, _ => by cases c
  | .dit _, _, _, c, _ => by cases c
  | .obj _ _, _, _, c, _ => by cases c
  | .box _ _, _, _, c, _ => by cases c
  | .al _, _, _, c, _ => by cases c
theorem RpTs.clean : ∀ {ts : List T} {vs : List V} {o : List Addr}, cleanTs ts = true → RpTs K G H ts vs o → RpTs K G' H ts vs o
  | [], _, _, _, h => h
  | t :: ts, _, _, c, ⟨v, r, o1, o2, h1, h2, h3, h4⟩ => by
    have c' : (cleanT t && cleanTs ts) = true := c
    rw [Bool.and_eq_true] at c'
    exact ⟨v, r, o1, o2, h1, Rp.clean c'.1 h2, RpTs.clean c'.2 h3, h4⟩
end
end
def eCallB (φ : List D → Option T) (fa : AF) : EF := fun env => (fa env).bind fun r => (φ (T.toDs r.1)).bind fun t => if cleanT t then some (t, r.2) else none
theorem rpDs_views {K : PySem.W.Frag} {H : Hp} : ∀ {us : List T} {ws : List V}, ws.length = us.length → (∀ q ∈ us.zip ws, RpD K H q.1.toD q.2) → RpDs K H (T.toDs us) ws
  | [], [], _, _ => rfl
  | u :: us, w :: ws, hl, h => ⟨w, ws, rfl, h (u, w) (by simp), rpDs_views (by simpa using hl) fun q hq => h q (by simp [hq])⟩
  | [], _ :: _, hl, _ => by simp at hl
  | _ :: _, [], hl, _ => by simp at hl
theorem ev_callB {K : PySem.W.Frag} {n : Nat} {φ : List D → Option T} {ta : TA} {fa : AF} (hφ : ∀ ds t, φ ds = some t → ds.length = n) (ha : EvVs K ta fa) : EvT K (tCall (spD n φ K) [] E0 ta) (eCallB φ fa) := by
  intro G0 H0 W H ts vs env σ t env' S g Q q
  obtain ⟨⟨us, e1⟩, g1, g2⟩ := obind g
  obtain ⟨t', g3, g4⟩ := obind g2
  by_cases hc : cleanT t' = true
  · rw [if_pos hc] at g4
    cases g4
    refine ha _ _ _ _ _ _ _ _ _ _ S g1 _ fun ws H1 s1 hl S1 => ?_
    have hds := rpDs_views hl fun q hq => S1.see (List.mem_append_left _ hq)
    have S2 := S1.views (W' := W) fun q hq => List.mem_append_right _ hq
    obtain ⟨G, ot, oe, s⟩ := S2
    refine ⟨T.toDs us, t, H1, hφ _ _ g3, g3, Same.refl _, by rw [List.append_nil]; exact hds, fun v G' H' o h1 h2 h3 h4 h5 h6 h7 => ?_⟩
    refine q v H' (s1.trans h3) (OkS.called s (Same.refl G) (fun b u e => h3 b u (s.gh b u e)) h3 (h4.clean hc) h5 (fun a ha => ⟨Same.none s.gh (h6 a ha).2, (h6 a ha).2⟩) fun a u e => .inl (by rw [e]; simp))
  · rw [if_neg hc] at g4; cases g4
theorem dt_callB {X : Cx} {k : Nat} {f : Addr} {fd : FuncData} {ps : List Str} {n : Nat} {φ : List D → Option T} {x : Str} {p pos : Pos} {e : Expr} {es : List Expr} {ta : TA} {fa : AF}
    (hφ : ∀ ds t, φ ds = some t → ds.length = n) (F : FnOk X.prog X.w X.K X.mg X.base CX0 k f fd ps (spD n φ X.K)) (hr : Room k X.A) (hg : Gl X x) (hm : X.mg x = some (.ref f)) (hk : PySem.W.keepIn X.K (.ref f) = true) (hb : Binds X.K fd ps [])
    (ha : DVs X (e :: es) ta fa) (hdb : (x == ("__debug__" : Str)) = false := by decide) (he : starEach (e :: es) X.env = (false, eval e X.env) :: starEach es X.env := by rfl) (hpl : (backTo pos (starEach es X.env)).any (·.1) = false := by rfl) :
    DT X (.Call (.Name x p) (e :: es) [] pos) (tCall (spD n φ X.K) [] E0 ta) (eCallB φ fa) := ⟨pe_call F hr hg hm hk hb .nil pass0 ha.pa hdb he hpl, ev_callB hφ ha.ok⟩
theorem dt_call0 {X : Cx} {k : Nat} {f : Addr} {fd : FuncData} {ps : List Str} {n : Nat} {φ : List D → Option T} {x : Str} {p pos : Pos}
    (hφ : ∀ ds t, φ ds = some t → ds.length = n) (F : FnOk X.prog X.w X.K X.mg X.base CX0 k f fd ps (spD n φ X.K)) (hr : Room k X.A) (hg : Gl X x) (hm : X.mg x = some (.ref f)) (hk : PySem.W.keepIn X.K (.ref f) = true) (hb : Binds X.K fd ps [])
    (hdb : (x == ("__debug__" : Str)) = false := by decide) :
    DT X (.Call (.Name x p) [] [] pos) (tCall (spD n φ X.K) [] E0 tNil) (eCall φ aN) := ⟨pe_call0 F hr hg hm hk hb .nil pass0 hdb, ev_call hφ da_nil.ok⟩
def sForV (i : Nat) (G : GF) (body : SF) : SF := fun env => (atL env i).bind fun us => (allP us).bind fun ds => (loopD G body ds (env.set i none)).map fun r => (r.1, match r.1 with
  | .rt _ => r.2
  | _ => r.2.set i (some (.lst us)))
end DL
set_option Elab.async false
set_option linter.all false
set_option maxRecDepth 100000
namespace DL
open PySem PySem.Spec PyProof.Rows L2
section
variable {env : Env} {i j : Int} {a b : D} {t : T} {f g : EF}
theorem gAdd_i : gAdd (.int i) (.int j) = some (.int (i + j)) := rfl
theorem gAdd_s {s u : Str} (h : s.length + u.length ≤ 16777216) : gAdd (.str s) (.str u) = some (.str (s ++ u)) := if_pos h
theorem gSub_i : gSub (.int i) (.int j) = some (.int (i - j)) := rfl
theorem gAddI_i : gAddI (.int i) (.int j) = some (.int (i + j)) := rfl
theorem gMul_l (h1 : -18446744073709551616 < i) (h2 : i < 18446744073709551616) : gMul (.int i) (.int j) = some (.int (i * j)) := if_pos (by unfold mulOk; exact decide_eq_true (.inl ⟨h1, h2⟩))
theorem gMul_r (h1 : -18446744073709551616 < j) (h2 : j < 18446744073709551616) : gMul (.int i) (.int j) = some (.int (i * j)) := if_pos (by unfold mulOk; exact decide_eq_true (.inr (.inl ⟨h1, h2⟩)))
theorem gDiv_i (h1 : 0 < j) (h2 : j < 1606938044258990275541962092341162602522202993782792835301376) : gDiv (.int i) (.int j) = some (.int (i / j)) := if_pos (by unfold divOk; exact decide_eq_true ⟨h1, h2⟩)
theorem gMod_i (h1 : 0 < j) : gMod (.int i) (.int j) = some (.int (i % j)) := if_pos (by unfold modOk; exact decide_eq_true h1)
theorem gPow_i (h1 : 0 ≤ j) (h2 : j ≤ 1000) (h3 : 0 ≤ i) (h4 : i < 18446744073709551616) : gPow (.int i) (.int j) = some (.int (i ^ j.toNat)) := if_pos (by unfold powOk; exact decide_eq_true ⟨h1, h2, h3, h4⟩)
theorem cLt_i : cLt (.int i) (.int j) = some (decide (i < j)) := rfl
theorem cLe_i : cLe (.int i) (.int j) = some (decide (i ≤ j)) := rfl
theorem cGt_i : cGt (.int i) (.int j) = some (decide (j < i)) := rfl
theorem cGe_i : cGe (.int i) (.int j) = some (decide (j ≤ i)) := rfl
theorem eqQ_i : eqQ (.int i) (.int j) = some (decide (i = j)) := by
  show (if scal (.int i) (.int j) = true then some (decide (V.int i = V.int j)) else none) = _
  rw [if_pos (show scal _ _ = true from rfl)]
  simp
theorem neQ_i : neQ (.int i) (.int j) = some (!decide (i = j)) := by unfold neQ; rw [eqQ_i]; rfl
theorem eqQ_s {s u : Str} : eqQ (.str s) (.str u) = some (decide (s = u)) := by
  show (if scal (.str s) (.str u) = true then some (decide (V.str s = V.str u)) else none) = _
  rw [if_pos (show scal _ _ = true from rfl)]
  simp
theorem eqQ_b {s u : Bool} : eqQ (.bl s) (.bl u) = some (decide (s = u)) := by
  show (if scal (.bl s) (.bl u) = true then some (decide (V.bl s = V.bl u)) else none) = _
  rw [if_pos (show scal _ _ = true from rfl)]
  simp
theorem neQ_b {s u : Bool} : neQ (.bl s) (.bl u) = some (!decide (s = u)) := by unfold neQ; rw [eqQ_b]; rfl
theorem toPys_ints : ∀ ns : List Int, toPys (ns.map D.int) = some (ns.map PyData.int)
  | [] => rfl
  | n :: ns => by
    show (toPy (.int n)).bind (fun p => (toPys (ns.map D.int)).map (p :: ·)) = _
    rw [toPys_ints ns]; rfl
theorem canLay_ints : ∀ ns : List Int, PyData.canLayAll0 (ns.map PyData.int) = true
  | [] => rfl
  | n :: ns => by show (PyData.canLay0 (.int n) && PyData.canLayAll0 (ns.map PyData.int)) = true; rw [canLay_ints ns]; rfl
theorem depth_ints : ∀ ns : List Int, PyData.depthAll (ns.map PyData.int) = 0
  | [] => rfl
  | n :: ns => by show max (PyData.depth (.int n)) (PyData.depthAll (ns.map PyData.int)) = 0; rw [depth_ints ns]; rfl
theorem shaped_ints (ns : List Int) : SeqAt.shaped (.list (ns.map PyData.int)) = true := by
  unfold SeqAt.shaped
  rw [show PyData.canLay0 (.list (ns.map PyData.int)) = PyData.canLayAll0 (ns.map PyData.int) from rfl, canLay_ints, show PyData.depth (.list (ns.map PyData.int)) = PyData.depthAll (ns.map PyData.int) + 1 from rfl, depth_ints]
  rfl
theorem eqvAll_ints : ∀ ns ms : List Int, PyData.eqvAll (ns.map PyData.int) (ms.map PyData.int) = decide (ns = ms)
  | [], [] => rfl
  | [], m :: ms => rfl
  | n :: ns, [] => rfl
  | n :: ns, m :: ms => by
    show (PyData.eqv (.int n) (.int m) && PyData.eqvAll (ns.map PyData.int) (ms.map PyData.int)) = _
    rw [eqvAll_ints ns ms]
    show ((n == m) && decide (ns = ms)) = _
    rw [Bool.eq_iff_iff]; simp
theorem eqQ_ints {ns ms : List Int} : eqQ (.lst (ns.map D.int)) (.lst (ms.map D.int)) = some (decide (ns = ms)) := by
  show eqDeep _ _ = _
  unfold eqDeep
  rw [show toPy (.lst (ns.map D.int)) = some (.list (ns.map PyData.int)) by show (toPys _).map _ = _; rw [toPys_ints]; rfl, show toPy (.lst (ms.map D.int)) = some (.list (ms.map PyData.int)) by show (toPys _).map _ = _; rw [toPys_ints]; rfl]
  show (if (SeqAt.shaped _ && SeqAt.shaped _) = true then some (PyData.eqv _ _) else none) = _
  rw [shaped_ints, shaped_ints, if_pos (show (true && true) = true from rfl)]
  exact congrArg some (eqvAll_ints ns ms)
theorem neQ_ints {ns ms : List Int} : neQ (.lst (ns.map D.int)) (.lst (ms.map D.int)) = some (!decide (ns = ms)) := by unfold neQ; rw [eqQ_ints]; rfl
theorem allP_map (ds : List D) : allP (ds.map T.p) = some ds := by
  induction ds with
  | nil => rfl
  | cons d ds ih => simp [allP, ih]
theorem itemsT_l {ds : List D} : itemsT (.lst (ds.map T.p)) = some ds := allP_map ds
theorem toD_l {ds : List D} : (T.lst (ds.map T.p)).toD = .lst ds := by show D.lst (T.toDs _) = _; rw [toDs_p]
theorem gSum_p {ns : List Int} : gSum (.p (.lst (ns.map D.int))) = some (.int ns.sum) := by
  show (intsD (ns.map D.int)).map _ = _
  rw [intsD_map]; rfl
theorem gSum_l {ns : List Int} : gSum (.lst ((ns.map D.int).map T.p)) = some (.int ns.sum) := by
  unfold gSum
  rw [toD_l]
  show (intsD (ns.map D.int)).map _ = _
  rw [intsD_map]; rfl
theorem gLen_p {ds : List D} : gLen (.p (.lst ds)) = some (.int ds.length) := rfl
theorem gLen_l {ts : List T} : gLen (.lst ts) = some (.int ts.length) := rfl
end
theorem atI_0 {α : Type} {x0 : α} {xs : List α} : atI (x0 :: xs) 0 = some x0 := atI_nat (j := 0) rfl
theorem atI_1 {α : Type} {x0 x1 : α} {xs : List α} : atI (x0 :: x1 :: xs) 1 = some x1 := atI_nat (j := 1) rfl
theorem atI_2 {α : Type} {x0 x1 x2 : α} {xs : List α} : atI (x0 :: x1 :: x2 :: xs) 2 = some x2 := atI_nat (j := 2) rfl
theorem atI_3 {α : Type} {x0 x1 x2 x3 : α} {xs : List α} : atI (x0 :: x1 :: x2 :: x3 :: xs) 3 = some x3 := atI_nat (j := 3) rfl
theorem atI_4 {α : Type} {x0 x1 x2 x3 x4 : α} {xs : List α} : atI (x0 :: x1 :: x2 :: x3 :: x4 :: xs) 4 = some x4 := atI_nat (j := 4) rfl
theorem atI_5 {α : Type} {x0 x1 x2 x3 x4 x5 : α} {xs : List α} : atI (x0 :: x1 :: x2 :: x3 :: x4 :: x5 :: xs) 5 = some x5 := atI_nat (j := 5) rfl
theorem atI_6 {α : Type} {x0 x1 x2 x3 x4 x5 x6 : α} {xs : List α} : atI (x0 :: x1 :: x2 :: x3 :: x4 :: x5 :: x6 :: xs) 6 = some x6 := atI_nat (j := 6) rfl
theorem ixT_lst {ts : List T} {i : Int} : ixT (.lst ts) i = atI ts i := rfl
theorem ixT_pl {ds : List D} {i : Int} : ixT (.p (.lst ds)) i = (atI ds i).map T.p := rfl
theorem ixT_pt {ds : List D} {i : Int} : ixT (.p (.tup ds)) i = (atI ds i).map T.p := rfl
theorem atI_map {α β : Type} (f : α → β) (xs : List α) (i : Int) : atI (xs.map f) i = (atI xs i).map f := by
  unfold atI
  rw [List.length_map]
  cases ixN xs.length i with
  | none => rfl
  | some j => show (xs.map f)[j]? = (xs[j]?).map f; rw [List.getElem?_map]
theorem kit_ii : kitB "int" "int" = some true := by decide +kernel
theorem kit_ib : kitB "int" "bool" = some false := by decide +kernel
theorem kit_ll : kitB "list" "list" = some true := by decide +kernel
theorem kit_bb : kitB "bool" "bool" = some true := by decide +kernel
theorem kit_bi : kitB "bool" "int" = some true := by decide +kernel
theorem kit_ss : kitB "str" "str" = some true := by decide +kernel
theorem kit_tt : kitB "tuple" "tuple" = some true := by decide +kernel
theorem kit_tl : kitB "tuple" "list" = some false := by decide +kernel
theorem kit_lt : kitB "list" "tuple" = some false := by decide +kernel
theorem kit_ls : kitB "list" "str" = some false := by decide +kernel
theorem kit_li : kitB "list" "int" = some false := by decide +kernel
theorem kit_lb : kitB "list" "bool" = some false := by decide +kernel
theorem kit_is : kitB "int" "str" = some false := by decide +kernel
theorem kit_si : kitB "str" "int" = some false := by decide +kernel
theorem kit_sb : kitB "str" "bool" = some false := by decide +kernel
theorem kit_ti : kitB "tuple" "int" = some false := by decide +kernel
theorem kit_tb : kitB "tuple" "bool" = some false := by decide +kernel
theorem kit_ts : kitB "tuple" "str" = some false := by decide +kernel
end DL
set_option Elab.async false
set_option linter.all false
set_option maxRecDepth 100000
namespace DL
open PySem PySem.Spec PyProof.Rows L2
theorem rpDs_strs {K : PySem.W.Frag} {G : Hp} : ∀ ys : List Str, RpDs K G (ys.map D.str) (ys.map V.str)
  | [] => rfl
  | y :: ys => ⟨.str y, _, rfl, rfl, rpDs_strs ys⟩
def strsD : List D → Option (List Str)
  | [] => some []
  | .str s :: r => (strsD r).map (s :: ·)
  | _ => none
theorem strsD_eq : ∀ {ds : List D} {ss : List Str}, strsD ds = some ss → ds = ss.map D.str
  | [], ss, h => by cases h; rfl
  | .str s :: r, ss, h => by
    obtain ⟨ms, h1, h2⟩ := omap (show (strsD r).map (s :: ·) = some ss from h)
    subst h2
    rw [strsD_eq h1]; rfl
  | .non :: _, _, h => by cases h
  | .bl _ :: _, _, h => by cases h
  | .int _ :: _, _, h => by cases h
  | .lst _ :: _, _, h => by cases h
  | .tup _ :: _, _, h => by cases h
  | .dic _ :: _, _, h => by cases h
theorem rpDs_strs_eq {K : PySem.W.Frag} {G : Hp} : ∀ {ss : List Str} {vs : List V}, RpDs K G (ss.map D.str) vs → vs = ss.map V.str
  | [], vs, h => h
  | n :: ns, vs, ⟨v, r, h1, h2, h3⟩ => by rw [h1, show v = _ from h2, rpDs_strs_eq h3]; rfl
def eM1 (g : Str → Str → Option D) (fo fe : EF) : EF := fun env => (fo env).bind fun x => (fe x.2).bind fun y => match x.1, y.1 with
  | .p (.str a), .p (.str b) => (g a b).map fun d => (.p d, y.2)
  | _, _ => none
section
variable {X : Cx} {o e a b : Expr} {to te ta tb : TE} {fo fe fa fb : EF} {apos pos : Pos}
def gStarts (a b : Str) : Option D := some (.bl (Txt.startswith a b))
def gFind (a b : Str) : Option D := some (.int (Txt.find a b))
def gCount (a b : Str) : Option D := some (.int (Txt.count a b))
def eSplit (fo fe : EF) : EF := fun env => (fo env).bind fun x => (fe x.2).bind fun y => match x.1, y.1 with
  | .p (.str a), .p (.str b) => if (b.length == 0) = false ∧ a.length + 2 ≤ 16777216 then some (.lst (((Txt.split a b).map D.str).map T.p), y.2) else none
  | _, _ => none
theorem dt_split (ho : DT X o to fo) (he : DT X e te fe) (hs : starEach [e] X.env = [(false, eval e X.env)] := by rfl) (hbase : attributeBase o "split" X.env (eval o X.env) = eval o X.env := by rfl) (hline : (apos.endLine == pos.line) = true := by rfl) :
    DT X (.Call (.Attribute o "split" apos) [e] [] pos) (tM1 (fun x xs H Q => ∃ a b, x = .str a ∧ xs = [.str b] ∧ (b.length == 0) = false ∧ a.length + 2 ≤ sizeLine ∧ rNewStrs (Txt.split a b) H Q) to te) (eSplit fo fe) := by
  refine ⟨pe_split ho.pe he.pe hs hbase hline, ?_⟩
  intro G0 H0 W H ts vs env σ t env' S h Q q
  obtain ⟨⟨x, e1⟩, h1, h2⟩ := obind h
  obtain ⟨⟨y, e2⟩, h3, h4⟩ := obind h2
  dsimp only at h4
  split at h4
  · rename_i a b
    by_cases hc : (b.length == 0) = false ∧ a.length + 2 ≤ 16777216
    · rw [if_pos hc] at h4
      cases h4
      refine ho.ok _ _ _ _ _ _ _ _ _ _ S h1 _ fun v H1 s1 S1 => ?_
      have ev : v = .str a := S1.top
      refine ⟨⟨a, ev⟩, ?_⟩
      refine he.ok _ _ _ _ _ _ _ _ _ _ S1 h3 _ fun w H2 s2 S2 => ?_
      have ew : w = .str b := S2.top
      refine ⟨a, b, ev, by rw [ew], hc.1, by rw [sizeLine_eq]; exact hc.2, fun p hp => ?_⟩
      obtain ⟨G, ot, oe, s⟩ := S2.pop.pop
      exact q _ _ ((s1.trans s2).trans (same_upd hp)) (OkS.newL (by simp) (OkS.pushD s (rpDs_strs (Txt.split a b))) hp)
    · rw [if_neg hc] at h4; cases h4
  · cases h4
def eJoin (fo fe : EF) : EF := fun env => (fo env).bind fun x => (fe x.2).bind fun y => match x.1 with
  | .p (.str a) => (itemsT y.1).bind fun ds => (strsD ds).bind fun ys => if (ys.map (·.length)).sum + ys.length * a.length ≤ 16777216 then some (.p (.str (Txt.join a ys)), y.2) else none
  | _ => none
theorem dt_join (ho : DT X o to fo) (he : DV X e te fe) (hs : starEach [e] X.env = [(false, eval e X.env)] := by rfl) (hbase : attributeBase o "join" X.env (eval o X.env) = eval o X.env := by rfl) (hline : (apos.endLine == pos.line) = true := by rfl) :
    DT X (.Call (.Attribute o "join" apos) [e] [] pos) (tM1 (fun x xs H Q => ∃ a p, ∃ ys : List Str, x = .str a ∧ xs = [.ref p] ∧ (SqL X.K H p (ys.map V.str) ∨ SqT X.K H p (ys.map V.str)) ∧
      (ys.map (·.length)).sum + ys.length * a.length ≤ 16777216 ∧ Q (.str (Txt.join a ys)) H) to te) (eJoin fo fe) := by
  refine ⟨pe_join ho.pe he.pe hs hbase hline, ?_⟩
  intro G0 H0 W H ts vs env σ t env' S h Q q
  obtain ⟨⟨x, e1⟩, h1, h2⟩ := obind h
  obtain ⟨⟨y, e2⟩, h3, h4⟩ := obind h2
  dsimp only at h4
  split at h4
  · rename_i a
    obtain ⟨ds, h5, h6⟩ := obind h4
    obtain ⟨ys, h7, h8⟩ := obind h6
    by_cases hc : (ys.map (·.length)).sum + ys.length * a.length ≤ 16777216
    · rw [if_pos hc] at h8
      cases h8
      refine ho.ok _ _ _ _ _ _ _ _ _ _ S h1 _ fun v H1 s1 S1 => ?_
      have ev : v = .str a := S1.top
      refine ⟨⟨a, ev⟩, ?_⟩
      refine he.ok _ _ _ _ _ _ _ _ _ _ S1 h3 _ fun w H2 s2 S2 => ?_
      obtain ⟨p, xs, rfl, k1, k2, k3, S3⟩ := S2.items h5
      have ed := strsD_eq h7
      subst ed
      have ex : xs = ys.map V.str := by
        obtain ⟨G, ot, oe, s⟩ := S3
        obtain ⟨o1, o2, r1, _, _⟩ := s.tmp.split (by simpa using k3)
        exact rpDs_strs_eq (rpDs_of r1).1
      subst ex
      refine ⟨a, p, ys, ev, rfl, ?_, hc, q _ H2 (s1.trans s2) (S2.unview.pop.scal fun _ => rfl)⟩
      cases hk : isLT y with
      | true => exact .inl (k1 hk)
      | false => exact .inr (k2 hk)
    · rw [if_neg hc] at h8; cases h8
  · cases h4
end
def repS (z : Str) (n : Int) : Str := ⟨((List.replicate n.toNat z.cps.toList).flatten).toArray⟩
def rMulA : R2 := fun x y H Q => (rI IntMulOk fun i j => .int (i * j)) x y H Q ∨ ∃ z n, x = .str z ∧ y = .int n ∧ -1000000000 < n ∧ n < 1000000000 ∧ z.length * n.toNat ≤ 16777216 ∧ Q (.str (repS z n)) H
def gMulA : D → D → Option D
  | .int i, .int j => gMul (.int i) (.int j)
  | .str z, .int n => if -1000000000 < n ∧ n < 1000000000 ∧ z.length * n.toNat ≤ 16777216 then some (.str (repS z n)) else none
  | _, _ => none
def rCatA : R2 := fun x y H Q => ∃ l b xs zs, x = .ref l ∧ y = .ref b ∧ Rd H l (.lst xs) ∧ Rd H b (.lst zs) ∧ xs.length + zs.length ≤ sizeLine ∧ ∀ p, H p = none → Q (.ref p) (upd H p (.lst (xs ++ zs)))
def eCat (fa fb : EF) : EF := fun env => (fa env).bind fun x => (fb x.2).bind fun y => (itemsT x.1).bind fun ds => (itemsT y.1).bind fun es =>
  if isLT x.1 = true ∧ isLT y.1 = true ∧ ds.length + es.length ≤ 16777216 then some (.lst ((ds ++ es).map T.p), y.2) else none
def eFz (f : EF) : EF := fun env => (f env).map fun r => (.p r.1.toD, r.2)
theorem dt_fz {X : Cx} {e : Expr} {te : TE} {f : EF} (h : DT X e te f) : DT X e te (eFz f) := by
  refine ⟨h.pe, ?_⟩
  intro G0 H0 W H ts vs env σ t env' S g Q q
  obtain ⟨⟨x, e1⟩, h1, h2⟩ := omap g
  cases h2
  exact h.ok _ _ _ _ _ _ _ _ _ _ S h1 _ fun v H1 s1 S1 => q v H1 s1 S1.frz
theorem fn_none {P : Program} {w : World} {K : PySem.W.Frag} {mg : Str → Option Value} {base : Heap} {k : Nat} {f : Addr} {fd : FuncData} {ps : List Str} {n : Nat} : FnOk P w K mg base CX0 k f fd ps (spD n (fun _ => none) K) :=
  ⟨fun _ _ _ _ ⟨_, _, _, _, h, _⟩ => (nomatch h), fun _ _ _ _ _ _ _ _ _ _ _ _ _ ⟨_, _, _, _, h, _⟩ => (nomatch h)⟩
def aMv (i : Nat) (r : AF) : AF := fun env => match env[i]? with
  | some (some _) => (r env).bind fun y => match y.2[i]? with
    | some (some t) => some (t :: y.1, y.2.set i none)
    | _ => none
  | _ => none
def Less (K K' : PySem.W.Frag) : Prop := ∀ (b : Addr) (o : Obj), K.lookup b = some o → ¬ (o.cls = .type "list" ∧ ∃ its n, o.data = .seq its n) → K'.lookup b = some o
section
variable {K K' : PySem.W.Frag}
theorem Less.refl (K : PySem.W.Frag) : Less K K := fun _ _ e _ => e
theorem Less.fn (L : Less K K') {f : Addr} {oc : Value} {od : Option Addr} {fd : FuncData} {sl : Array (Option Value)} (h : K.lookup f = some ⟨oc, od, .func fd, sl⟩) : K'.lookup f = some ⟨oc, od, .func fd, sl⟩ := L _ _ h fun ⟨_, _, _, e⟩ => nomatch e
theorem Less.code (L : Less K K') {cd : Value} {z : Str} (h : PySem.W.codeIn K cd z = true) : PySem.W.codeIn K' cd z = true := by
  unfold PySem.W.codeIn at h ⊢
  cases cd with
  | ref c =>
    dsimp only at h ⊢
    split at h
    · rename_i e
      rw [L _ _ e fun ⟨_, _, _, e⟩ => nomatch e]
      exact h
    · cases h
  | _ => cases h
theorem Less.keep (L : Less K K') {f : Addr} {oc : Value} {od : Option Addr} {fd : FuncData} {sl : Array (Option Value)} (h : K.lookup f = some ⟨oc, od, .func fd, sl⟩) : PySem.W.keepIn K' (.ref f) = true := by
  unfold PySem.W.keepIn
  dsimp only
  rw [L.fn h]
theorem Less.fun {x qual : Str} {st : Stmt} {f : Addr} {fd : FuncData} (L : Less K K') (F : Fun K x qual st f fd) : Fun K' x qual st f fd := by
  obtain ⟨oc, od, kV, doc, pm, an, cdv, ct, osl, e, lk, hcd⟩ := F.ex
  exact ⟨⟨oc, od, kV, doc, pm, an, cdv, ct, osl, e, L.fn lk, L.code hcd⟩, L.keep lk⟩
theorem look_filter (a : Addr) : ∀ (K : PySem.W.Frag) (b : Addr), List.lookup b (K.filter fun p => !(p.1 == a)) = if b = a then none else List.lookup b K
  | [], b => by simp
  | (c, o) :: K, b => by
    by_cases hc : c = a
    · subst hc
      rw [List.filter_cons_of_neg (by simp), look_filter c K b]
      by_cases hb : b = c
      · rw [if_pos hb, if_pos hb]
      · rw [if_neg hb, if_neg hb, List.lookup_cons, show (b == c) = false by simpa using hb]
    · rw [List.filter_cons_of_pos (by simpa using hc), List.lookup_cons, look_filter a K b, List.lookup_cons]
      by_cases hb : b = c
      · subst hb; simp [hc]
      · rw [show (b == c) = false by simpa using hb]
end
theorem walk_D {l : PySem.W.OpenLaw} {n k : Nat} {q : Program} {loose : List Str} {XP : (Str → Option Value) → Heap → Prop} {YP : World → Heap → Prop} {d : DefRec} {K : Params → PySem.W.Frag} {φ : List D → Option T} {x : Str}
    (hn : l.most = some n) (hn2 : n ≤ sizeLine) (hdf : d.params.defaults = []) (hr : Room k callerA) (hY : ∀ (w : World) (h : Heap), YP w h → (K w.params).In h)
    (F : ∀ (w : World) (mg : Str → Option Value) (fa : Addr) (h : Heap), (K w.params).In h → h.Ns mainGlobals mg → mg d.name = some (.ref fa) →
      ∃ fd : FuncData, (∀ (s : Shared) (u : Value), BindsTo s fd ⟨[u], []⟩ [(x, u)]) ∧ ∀ (K' : PySem.W.Frag) (base : Heap), Less (K w.params) K' → FnOk l.prog w K' mg base CX0 k fa fd [x] (spD 1 φ K'))
    (M : ∀ ns : List Int, ns.length ≤ n → (∀ z ∈ ns, Builtin.Int.intBits z ≤ 1048576) → φ [.lst (ns.map D.int)] = some (.p (.bl true))) :
    PySem.W.WalkO q loose XP YP l.row.toRowW d [] (fun f vs => PySem.call f vs) := by
  refine Att.attach_callB hn hdf fun w s₀ s₁ mg mb fa o pm cd doc a vs ns G Y ho hd hcd hmg hobj hints hlen hbits hg => ?_
  have KX := hY w _ Y
  obtain ⟨fd, hb, hF⟩ := F w mg fa _ KX G.T.g hmg
  have hM := M ns hlen hbits
  have go : ∀ K' : PySem.W.Frag, K'.In s₁.heap → List.lookup a K' = none → Less (K w.params) K' → codeAny (model l.prog w) callerA (.call (.ref fa) ⟨[.ref a], []⟩) (fun r s' => r = .ok (.ret (.bool true)) ∧ OldK s₁.heap s'.heap ∧ s'.os = s₁.os ∧ AllBare s'.gens) s₁ := fun K' KI hk L =>
    law_call (K := K') KI G.T.g G.T.b G.T.builtins G.T.nolimit hg hobj hints (Nat.le_trans hlen hn2) hr (fun base _ _ => hF K' base L) hb (fun H hO hS => by
      rcases hS with hS | ⟨o, its, n, e, _⟩
      · exact end_law hM hS
      · have e' : List.lookup a K' = some o := e
        rw [hk] at e'; cases e') fun _ _ _ h => h
  cases hk : List.lookup a (K w.params) with
  | none => exact go _ KX hk (Less.refl _)
  | some o1 =>
    have e1 := KX a o1 hk
    rw [hobj] at e1
    cases e1
    refine go ((K w.params).filter fun p => !(p.1 == a)) (fun b o e => ?_) ?_ fun b o e hn => ?_
    · have e' : List.lookup b ((K w.params).filter fun p => !(p.1 == a)) = some o := e
      rw [look_filter] at e'
      by_cases hb : b = a
      · rw [if_pos hb] at e'; cases e'
      · rw [if_neg hb] at e'; exact KX b o e'
    · rw [look_filter, if_pos rfl]
    · show List.lookup b ((K w.params).filter fun p => !(p.1 == a)) = some o
      rw [look_filter]
      by_cases hb : b = a
      · subst hb
        have e2 : List.lookup b (K w.params) = some o := e
        rw [hk] at e2; cases e2
        exact absurd ⟨rfl, _, _, rfl⟩ hn
      · rw [if_neg hb]; exact e
end DL
set_option Elab.async false
set_option linter.all false
set_option maxRecDepth 100000
namespace DL
open PySem PySem.Spec PyProof.Rows L2
section
variable {K : PySem.W.Frag} {G0 H0 H : Hp} {W : List (T × V)} {ts : List T} {vs : List V} {env : Env} {σ : St} {t : T} {v : V}
theorem OkS.newDic {p : Addr} (S : OkS K G0 H0 W H ts vs env σ) (hp : H p = none) : OkS K G0 H0 W (upd H p (.dK [])) (.dic [] :: ts) (.ref p :: vs) env σ := by
  obtain ⟨G, ot, oe, s⟩ := S
  have gp : G p = none := Same.none s.gh hp
  have ne : ∀ a u, H a = some u → a ≠ p := fun a u e z => by rw [z, hp] at e; cases e
  have k2 : ∀ a ∈ ot, upd H p (.dK []) a = H a := fun a ha => by
    obtain ⟨u, e, _⟩ := s.tmp.there _ a ha
    exact upd_ne (ne a u e)
  have k3 : ∀ a ∈ oe, upd H p (.dK []) a = H a := fun a ha => by
    obtain ⟨u, e, _⟩ := s.env.there _ a ha
    exact upd_ne (ne a u e)
  have all : ∀ a ∈ ot ++ oe, ∃ u, H a = some u := fun a ha => by
    rcases List.mem_append.mp ha with ha | ha
    · obtain ⟨u, e, _⟩ := s.tmp.there _ a ha; exact ⟨u, e⟩
    · obtain ⟨u, e, _⟩ := s.env.there _ a ha; exact ⟨u, e⟩
  refine ⟨G, p :: ot, oe, ⟨.ref p, vs, [p], ot, rfl, ⟨p, [], [], rfl, upd_same, ⟨rfl, rfl⟩, rfl⟩, s.tmp.mono (Same.refl _) _ k2, rfl⟩, s.env.mono (Same.refl _) _ k3, ?_, fun a ha => ?_, s.g0, fun b u e => ?_, fun b u e => ?_, s.nw, fun q hq => ?_⟩
  · rw [List.cons_append]
    refine List.nodup_cons.mpr ⟨fun z => ?_, s.nd⟩
    obtain ⟨u, e⟩ := all p z
    rw [hp] at e; cases e
  · rw [List.cons_append] at ha
    rcases List.mem_cons.mp ha with e | ha
    · subst e; exact ⟨gp, Same.none s.h0 hp⟩
    · exact s.fr a ha
  · rw [upd_ne (ne b u (s.gh b u e))]; exact s.gh b u e
  · rw [upd_ne (ne b u (s.h0 b u e))]; exact s.h0 b u e
  · obtain ⟨o, h⟩ := s.vw q hq
    refine ⟨o, h.mono (Same.refl _) _ fun a ha => ?_⟩
    obtain ⟨u, e, _⟩ := h.there _ a ha
    exact upd_ne (ne a u e)
def RpKd (K : PySem.W.Frag) (G : Hp) (kvs : List (Key × D)) (xs : List (Key × V)) : Prop := RpKs K G kvs xs
def pairsT (kvs : List (Key × D)) : List (Key × T) := kvs.map fun kv => (kv.1, T.p kv.2)
theorem rpTk_of {G : Hp} : ∀ {kvs : List (Key × D)} {xs : List (Key × V)} {o : List Addr}, RpTk K G H (pairsT kvs) xs o → RpKs K G kvs xs ∧ o = []
  | [], _, _, h => h
  | (k, d) :: r, _, _, ⟨v, r', o1, o2, h1, h2, h3, h4⟩ => by
    obtain ⟨g1, g2⟩ := rpTk_of h3
    exact ⟨⟨v, r', h1, h2.1, g1⟩, by rw [h4, h2.2, g2]; rfl⟩
theorem rpTk_mk {G : Hp} : ∀ {kvs : List (Key × D)} {xs : List (Key × V)}, RpKs K G kvs xs → RpTk K G H (pairsT kvs) xs []
  | [], _, h => ⟨h, rfl⟩
  | (k, d) :: r, _, ⟨v, r', h1, h2, h3⟩ => ⟨v, r', [], [], h1, ⟨h2, rfl⟩, rpTk_mk h3, rfl⟩
def putD (kvs : List (Key × D)) (k : Key) (d : D) : List (Key × D) := if (kvs.any fun kv => decide (kv.1 = k)) = true then kvs.map (fun kv => if kv.1 = k then (kv.1, d) else kv) else kvs ++ [(k, d)]
def valD (kvs : List (Key × D)) (k : Key) : Option D := (kvs.find? fun kv => decide (kv.1 = k)).map (·.2)
theorem RpKs.any {G : Hp} (k : Key) : ∀ {kvs : List (Key × D)} {xs : List (Key × V)}, RpKs K G kvs xs → (xs.any fun kv => decide (kv.1 = k)) = kvs.any fun kv => decide (kv.1 = k)
  | [], xs, h => by rw [show xs = [] from h]; rfl
  | (j, d) :: r, _, ⟨v, r', h1, h2, h3⟩ => by rw [h1, List.any_cons, List.any_cons, RpKs.any k h3]
theorem RpKs.upd {G : Hp} (k : Key) {d : D} {v : V} (hv : RpD K G d v) : ∀ {kvs : List (Key × D)} {xs : List (Key × V)}, RpKs K G kvs xs → RpKs K G (kvs.map (fun kv => if kv.1 = k then (kv.1, d) else kv)) (xs.map (fun kv => if kv.1 = k then (kv.1, v) else kv))
  | [], xs, h => by rw [show xs = [] from h]; exact rfl
  | (j, e) :: r, _, ⟨w, r', h1, h2, h3⟩ => by
    subst h1
    rw [List.map_cons, List.map_cons]
    have ih := RpKs.upd k hv h3
    by_cases c : j = k
    · rw [if_pos c, if_pos c]; exact ⟨v, _, rfl, hv, ih⟩
    · rw [if_neg c, if_neg c]; exact ⟨w, _, rfl, h2, ih⟩
theorem RpKs.app {G : Hp} {k : Key} {d : D} {v : V} (hv : RpD K G d v) : ∀ {kvs : List (Key × D)} {xs : List (Key × V)}, RpKs K G kvs xs → RpKs K G (kvs ++ [(k, d)]) (xs ++ [(k, v)])
  | [], xs, h => by rw [show xs = [] from h]; exact ⟨v, [], rfl, hv, rfl⟩
  | (j, e) :: r, _, ⟨w, r', h1, h2, h3⟩ => by subst h1; exact ⟨w, _, rfl, h2, RpKs.app hv h3⟩
theorem RpKs.put {G : Hp} {k : Key} {d : D} {v : V} (hv : RpD K G d v) {kvs : List (Key × D)} {xs : List (Key × V)} (h : RpKs K G kvs xs) : RpKs K G (putD kvs k d) (putK xs k v) := by
  unfold putD putK
  rw [h.any k]
  split
  · exact h.upd k hv
  · exact h.app hv
theorem RpKs.val {G : Hp} (k : Key) : ∀ {kvs : List (Key × D)} {xs : List (Key × V)}, RpKs K G kvs xs → (valD kvs k = none → valV xs k = none) ∧ ∀ d, valD kvs k = some d → ∃ v, valV xs k = some v ∧ RpD K G d v
  | [], xs, h => by rw [show xs = [] from h]; exact ⟨fun _ => rfl, fun d h => (nomatch h)⟩
  | (j, e) :: r, _, ⟨w, r', h1, h2, h3⟩ => by
    subst h1
    by_cases c : j = k
    · have e1 : valD ((j, e) :: r) k = some e := by simp [valD, List.find?_cons, c]
      rw [e1, valV_pos (by exact c)]
      exact ⟨fun h => (nomatch h), fun d h => by cases h; exact ⟨w, rfl, h2⟩⟩
    · have e1 : valD ((j, e) :: r) k = valD r k := by simp [valD, List.find?_cons, c]
      rw [e1, valV_neg (by exact c)]
      exact RpKs.val k h3
theorem RpKs.length {G : Hp} : ∀ {kvs : List (Key × D)} {xs : List (Key × V)}, RpKs K G kvs xs → xs.length = kvs.length
  | [], xs, h => by rw [show xs = [] from h]; rfl
  | (j, e) :: r, _, ⟨w, r', h1, h2, h3⟩ => by subst h1; simp [RpKs.length h3]
theorem OkS.wrDic {kvs : List (Key × D)} {es : List T} {ws : List V} (S : OkS K G0 H0 W H (.dic (pairsT kvs) :: (es ++ ts)) (v :: (ws ++ vs)) env σ) (hw : ws.length = es.length) : ∃ a xs, v = .ref a ∧ H a = some (.dK xs) ∧ xs.length = kvs.length ∧
    ∀ (kvs' : List (Key × D)) (xs' : List (Key × V)), (∀ (G : Hp) (o2 : List Addr), RpKs K G kvs xs → RpTs K G H es ws o2 → RpKs K G kvs' xs') → OkS K G0 H0 [] (upd H a (.dK xs')) (.dic (pairsT kvs') :: ts) (.ref a :: vs) env σ := by
  obtain ⟨G, ot, oe, s⟩ := S
  obtain ⟨v0, r0, oa, ob, h1, ⟨a, xs, o1, e1, e2, e3, e4⟩, h3, h4⟩ := s.tmp
  cases h1
  obtain ⟨o2, o3, k1, k2, k3⟩ := h3.split hw
  obtain ⟨z1, z2⟩ := rpTk_of e3
  subst z2
  refine ⟨a, xs, e1, e2, z1.length, fun kvs' xs' hf => ?_⟩
  have f1 := hf G o2 z1 k1
  have pm : (ot ++ oe).Perm (a :: (o3 ++ oe) ++ o2) := by
    rw [h4, e4, k3]
    have q1 : (a :: ([] : List Addr) ++ (o2 ++ o3) ++ oe) = a :: (o2 ++ (o3 ++ oe)) := by simp
    rw [q1, List.cons_append]
    exact List.Perm.cons a List.perm_append_comm
  have nd := (List.nodup_append.mp (pm.nodup_iff.mp s.nd)).1
  have na : ∀ b ∈ o3 ++ oe, b ≠ a := fun b hb e => by
    subst e
    exact (List.nodup_cons.mp nd).1 hb
  have kp : ∀ b ∈ o3 ++ oe, upd H a (.dK xs') b = H b := fun b hb => upd_ne (na b hb)
  have fr : ∀ b ∈ a :: (o3 ++ oe), G b = none ∧ H0 b = none := fun b hb => s.fr b (pm.mem_iff.mpr (List.mem_append_left _ hb))
  refine ⟨G, a :: o3, oe, ⟨.ref a, vs, [a], o3, rfl, ⟨a, xs', [], rfl, upd_same, rpTk_mk f1, rfl⟩, k2.mono (Same.refl _) _ (fun b hb => kp b (by simp [hb])), rfl⟩, s.env.mono (Same.refl _) _ (fun b hb => kp b (by simp [hb])), by simpa using nd, fun b hb => fr b (by simpa using hb), s.g0, fun b u e => ?_, fun b u e => ?_, s.nw, fun q hq => by cases hq⟩
  · have : b ≠ a := fun z => by subst z; rw [(fr b (by simp)).1] at e; cases e
    rw [upd_ne this]; exact s.gh b u e
  · have : b ≠ a := fun z => by subst z; rw [(fr b (by simp)).2] at e; cases e
    rw [upd_ne this]; exact s.h0 b u e
end
def eDn : EF := fun env => some (.dic [], env)
theorem dt_dn {X : Cx} {pos : Pos} : DT X (.Dict [] [] pos) tDNewK eDn := by
  refine ⟨pe_dnewK, ?_⟩
  intro G0 H0 W H ts vs env σ t env' S g Q q
  cases g
  exact fun p hp => q _ _ (same_upd hp) (S.newDic hp)
def frzK : List (Key × T) → Option (List (Key × D))
  | [] => some []
  | (k, .p d) :: r => (frzK r).map ((k, d) :: ·)
  | _ :: _ => none
theorem frzK_eq : ∀ {kvs : List (Key × T)} {ds : List (Key × D)}, frzK kvs = some ds → kvs = pairsT ds
  | [], ds, h => by cases h; rfl
  | (k, .p d) :: r, ds, h => by
    obtain ⟨es, h1, h2⟩ := omap (show (frzK r).map ((k, d) :: ·) = some ds from h)
    subst h2
    rw [frzK_eq h1]; rfl
  | (_, .lst _) :: _, _, h => by cases h
  | (_, .tup _) :: _, _, h => by cases h
  | (_, .dic _) :: _, _, h => by cases h
theorem frzK_pairs : ∀ ds : List (Key × D), frzK (pairsT ds) = some ds
  | [] => rfl
  | (k, d) :: r => by show (frzK (pairsT r)).map ((k, d) :: ·) = _; rw [frzK_pairs r]; rfl
def keyD : D → Option Key
  | .int i => some (.inl i)
  | .str s => some (.inr s)
  | _ => none
theorem keyD_rp {K : PySem.W.Frag} {G : Hp} {d : D} {k : Key} {v : V} (h : keyD d = some k) (r : RpD K G d v) : v = kV k := by
  cases d with
  | int i => cases h; exact r
  | str s => cases h; exact r
  | _ => cases h
def atD (env : Env) (i : Nat) : Option (List (Key × D)) := match env[i]? with
  | some (some (.dic kvs)) => frzK kvs
  | _ => none
theorem atD_eq {env : Env} {i : Nat} {ds : List (Key × D)} (h : atD env i = some ds) : env[i]? = some (some (.dic (pairsT ds))) := by
  unfold atD at h
  split at h
  · rename_i kvs e
    rw [e, frzK_eq h]
  · cases h
def keyT : T → Option Key
  | .p d => keyD d
  | _ => none
def sPutD (i : Nat) (fk f : EF) : SF := fun env => (f env).bind fun r => (atD r.2 i).bind fun _ => (fk r.2).bind fun s => (keyT s.1).bind fun k => (atD s.2 i).bind fun kvs => match r.1 with
  | .p d => if kvs.length < 16000000 then some (.nx, s.2.set i (some (.dic (pairsT (putD kvs k d))))) else none
  | _ => none
section
variable {X : Cx} {e j : Expr} {te tj : TE} {f fj : EF} {pos npos ipos : Pos}
theorem ds_putD (i : Nat) {x : Str} (hu : X.A.units + 1 < cLine) (h : DT X e te f) (hj : DT X j tj fj) (hs : swapsWith e (some (.Subscript (.Name x npos) j ipos)) pos.line X.env = pure false := by rfl) (hN : X.N[i]? = some x := by rfl) (hv : Vis X.env.scope x := by first | exact Or.inl rfl | exact Or.inr (Or.inl rfl) | exact Or.inr (Or.inr rfl)) (hd : (x == ("__debug__" : Str)) = false := by decide)
    (hcd : (x == ("__classdict__" : Str)) = false := by decide) : DS X (.Assign [.Subscript (.Name x npos) j ipos] e pos) (sDPut (tVar i) tj te) (sPutD i fj f) [] := by
  refine ⟨ps_dput hu (pe_var hN hv hd hcd) hj.pe h.pe hs, ?_⟩
  intro G0 H0 H ts vs env σ fl env' S g D q
  obtain ⟨⟨t, e1⟩, g1, g2⟩ := obind g
  obtain ⟨us, g3, g4⟩ := obind g2
  have he1 := atD_eq g3
  obtain ⟨⟨y, e2⟩, g5, g6⟩ := obind g4
  obtain ⟨k, g7, g8⟩ := obind g6
  obtain ⟨kvs, g9, g10⟩ := obind g8
  have he2 := atD_eq g9
  dsimp only at g10
  cases t with
  | p d =>
    have g10 : (if kvs.length < 16000000 then some (Fl.nx, e2.set i (some (.dic (pairsT (putD kvs k d))))) else none) = some (fl, env') := g10
    by_cases hlen16 : kvs.length < 16000000
    · rw [if_pos hlen16] at g10
      cases g10
      cases y with
      | p kd =>
        have g7 : keyD kd = some k := g7
        refine h.ok _ _ _ _ _ _ _ _ _ _ S g1 _ fun w H1 s1 S1 => ?_
        obtain ⟨v, hv1, S2⟩ := S1.look he1
        refine ⟨v, hv1, ?_⟩
        refine hj.ok _ _ _ _ _ _ _ _ _ _ S2.unview g5 _ fun z H2 s2 S3 => ?_
        have ez : z = kV k := keyD_rp g7 S3.top
        obtain ⟨v2, hv2, S4⟩ := S3.pop.get he2
        rw [hv1] at hv2
        cases hv2
        obtain ⟨a, xs, k1, k2, k3, k4⟩ := OkS.wrDic (es := [.p d]) (ws := [w]) S4 rfl
        cases k1
        have hsz : xs.length < sizeLine := by rw [k3, sizeLine_eq]; omega
        have dp : DPut H2 a z w (upd H2 a (.dK (putK xs k w))) := by rw [ez]; exact DPut.k k2 hsz
        refine ⟨a, _, rfl, dp, ?_⟩
        have S5 := k4 (putD kvs k d) (putK xs k w) fun G o2 r1 r2 => by
          obtain ⟨v', r', p1, p2, q1, q2, q3, q4⟩ := r2
          cases q1
          exact r1.put q2.1
        have hlen : i < e2.length := (List.getElem?_eq_some_iff.mp he2).1
        have S6 := S5.put (i := i) (by simpa using hlen)
        rw [List.set_set, set_back hv1] at S6
        exact q _ _ S6 .rfl'
      | _ => cases g7
    · rw [if_neg hlen16] at g10; cases g10
  | _ => cases g10
end
def dicT : T → Option (List (Key × D))
  | .p (.dic kvs) => some kvs
  | .dic kvs => frzK kvs
  | _ => none
theorem St0.dic {K : PySem.W.Frag} {G0 H0 G H : Hp} {W : List (T × V)} {ts : List T} {vs : List V} {env : Env} {σ : St} {ot oe : List Addr} {t : T} {v : V} {ds : List (Key × D)} (s : St0 K G0 H0 W G H ts vs env σ ot oe) (hq : (t, v) ∈ W) (h : dicT t = some ds) :
    ∃ a xs, v = .ref a ∧ Rd H a (.dK xs) ∧ RpKs K G ds xs := by
  obtain ⟨o, r⟩ := s.vw (t, v) hq
  cases t with
  | p d =>
    cases d with
    | dic kvs =>
      cases h
      obtain ⟨⟨a, xs, e1, e2, e3⟩, _⟩ := r
      exact ⟨a, xs, e1, Same.rd s.gh e2, e3⟩
    | _ => cases h
  | dic kvs =>
    have e := frzK_eq (show frzK kvs = some ds from h)
    subst e
    obtain ⟨a, xs, o', e1, e2, e3, e4⟩ := r
    exact ⟨a, xs, e1, .inl e2, (rpTk_of e3).1⟩
  | _ => cases h
section
variable {X : Cx} {o i x : Expr} {to ti tx : TE} {fo fi fx : EF} {pos apos : Pos}
def eDix (fo fi : EF) : EF := fun env => (fo env).bind fun r => (fi r.2).bind fun s => (dicT r.1).bind fun ds => (keyT s.1).bind fun k => (valD ds k).map fun d => (.p d, s.2)
theorem dt_dix (hu : X.A.units + 1 < cLine) (ho : DV X o to fo) (hi : DT X i ti fi) (hs : NoSl i := by exact fun _ _ => rfl) : DT X (.Subscript o i pos) (tDGet to ti) (eDix fo fi) := by
  refine ⟨pe_dget hu ho.pe hi.pe hs, ?_⟩
  intro G0 H0 W H ts vs env σ t env' S g Q q
  obtain ⟨⟨y, e1⟩, g1, g2⟩ := obind g
  obtain ⟨⟨z, e2⟩, g3, g4⟩ := obind g2
  obtain ⟨ds, g5, g6⟩ := obind g4
  obtain ⟨k, g7, g8⟩ := obind g6
  obtain ⟨d, g9, g10⟩ := omap g8
  cases g10
  cases z with
  | p kd =>
    refine ho.ok _ _ _ _ _ _ _ _ _ _ S g1 _ fun v H1 s1 S1 => ?_
    refine hi.ok _ _ _ _ _ _ _ _ _ _ S1 g3 _ fun w H2 s2 S2 => ?_
    have ew : w = kV k := keyD_rp (show keyD kd = some k from g7) S2.top
    obtain ⟨G, ot, oe, s⟩ := S2.pop
    obtain ⟨a, xs, ev, ha, rr⟩ := s.dic (t := y) (v := v) (by simp) g5
    obtain ⟨u, u1, u2⟩ := (rr.val k).2 d g9
    refine ⟨a, u, ev, by rw [ew, ← u1]; exact (.inl ⟨_, _, ha, rfl, rfl⟩ : DGet _ _ _ _), ?_⟩
    have s' : St0 X.K G0 H0 W G H2 ts vs _ σ ot oe := ⟨s.tmp, s.env, s.nd, s.fr, s.g0, s.gh, s.h0, s.nw, fun q hq => s.vw q (List.mem_cons_of_mem _ hq)⟩
    have S3 := OkS.pushD (ds := [d]) (xs := [u]) s' ⟨u, [], rfl, u2, rfl⟩
    exact q u H2 (s1.trans s2) S3
  | _ => cases g7
def eDget (fo fi fx : EF) : EF := fun env => (fo env).bind fun r => (fi r.2).bind fun s => (fx s.2).bind fun u => (dicT r.1).bind fun ds => (keyT s.1).bind fun k => match u.1 with
  | .p z => some (.p ((valD ds k).getD z), u.2)
  | _ => none
def eDin (b : Bool) (fi fo : EF) : EF := fun env => (fi env).bind fun s => (fo s.2).bind fun r => (dicT r.1).bind fun ds => (keyT s.1).bind fun k => some (.p (.bl (if b then (valD ds k).isSome else !(valD ds k).isSome)), r.2)
theorem ev_din (b : Bool) {td : TE} (htd : td = if b then tDIn ti to else tDNotIn ti to) (ho : EvV X.K to fo) (hi : EvV X.K ti fi) : EvT X.K td (eDin b fi fo) := by
  intro G0 H0 W H ts vs env σ t env' S g Q q
  obtain ⟨⟨z, e1⟩, g1, g2⟩ := obind g
  obtain ⟨⟨y, e2⟩, g3, g4⟩ := obind g2
  obtain ⟨ds, g5, g6⟩ := obind g4
  obtain ⟨k, g7, g8⟩ := obind g6
  cases g8
  cases z with
  | p kd =>
    have main : ti σ H fun w H1 => to σ H1 fun v H2 => ∃ a o, v = .ref a ∧ DGet H2 a w o ∧ Q (.bl (if b then o.isSome else !o.isSome)) H2 := by
      refine hi _ _ _ _ _ _ _ _ _ _ S g1 _ fun w H1 s1 S1 => ?_
      refine ho _ _ _ _ _ _ _ _ _ _ S1 g3 _ fun v H2 s2 S2 => ?_
      have ew : w = kV k := keyD_rp (show keyD kd = some k from g7) (S2.see (q := (.p kd, w)) (by simp))
      obtain ⟨G, ot, oe, s⟩ := S2
      obtain ⟨a, xs, ev, ha, rr⟩ := s.dic (t := y) (v := v) (by simp) g5
      have s' : St0 X.K G0 H0 W G H2 ts vs _ σ ot oe := ⟨s.tmp, s.env, s.nd, s.fr, s.g0, s.gh, s.h0, s.nw, fun q hq => s.vw q (List.mem_cons_of_mem _ (List.mem_cons_of_mem _ hq))⟩
      have same : (valV xs k).isSome = (valD ds k).isSome := by
        cases hv : valD ds k with
        | none => rw [(rr.val k).1 hv]; rfl
        | some d => obtain ⟨n, n1, _⟩ := (rr.val k).2 d hv; rw [n1]; rfl
      refine ⟨a, valV xs k, ev, by rw [ew]; exact (.inl ⟨_, _, ha, rfl, rfl⟩ : DGet _ _ _ _), ?_⟩
      rw [same]
      exact q _ H2 (s1.trans s2) (OkS.scal ⟨G, ot, oe, s'⟩ fun _ => rfl)
    subst htd
    cases b with
    | true => exact main
    | false => exact main
  | _ => cases g7
end
end DL
set_option Elab.async false
set_option linter.all false
set_option maxRecDepth 100000
namespace DL
open PySem PySem.Spec PyProof.Rows L2
section
variable {K : PySem.W.Frag} {G0 H0 H : Hp} {W : List (T × V)} {ts : List T} {vs : List V} {env : Env} {σ : St} {t : T} {v : V}
end
def loopT (G : GF) (body : SF) : List T → Env → Option (Fl × Env)
  | [], env => some (.nx, env)
  | t :: ts, env => (G t env).bind fun e1 => (body e1).bind fun r => match r.1 with
    | .nx => loopT G body ts r.2
    | .ct => loopT G body ts r.2
    | .bk => some (.nx, r.2)
    | .rt t => some (.rt t, r.2)
def sForM (f : EF) (G : GF) (body : SF) : SF := fun env => (f env).bind fun r => match r.1 with
  | .lst us => loopT G body us r.2
  | _ => none
def eM0 (g : Str → Option D) (fo : EF) : EF := fun env => (fo env).bind fun x => match x.1 with
  | .p (.str a) => (g a).map fun d => (.p d, x.2)
  | _ => none
def gRstrip (a : Str) : Option D := if a.length ≤ 16777216 then some (.str (Txt.rstrip a)) else none
section
variable {X : Cx} {o : Expr} {to : TE} {fo : EF} {apos pos : Pos}
end
def rng3D (lo c : Int) (n : Nat) : List D := (List.range n).map fun (k : Nat) => D.int (lo + (k : Nat) * c)
def iR3 (f : AF) : IF := fun env => (f env).bind fun r => match r.1 with
  | [.p (.int i), .p (.int j), .p (.int c)] => if c ≠ 0 ∧ c.natAbs < 1073741824 ∧ Builtin.Range.small i j c = true ∧ Builtin.Range.rangeSize i j c = ((Builtin.Range.rangeSize i j c).toNat : Int) then some (rng3D i c (Builtin.Range.rangeSize i j c).toNat, r.2) else none
  | _ => none
end DL
set_option Elab.async false
set_option linter.all false
set_option maxRecDepth 100000
namespace DL
open PySem PySem.Spec PyProof.Rows L2
variable {env e : Env} {i j n k : Nat} {t u : T} {ts us : List T} {d a b : D} {ds es : List D} {fa fb fc f : EF} {r : AF} {c c2 : CF} {F1 F2 F : SF} {G : GF} {gs : GsF} {z w : Int}
theorem bindS {α β : Type} {x : α} {g : α → Option β} : (some x).bind g = g x := id rfl
theorem mapS {α β : Type} {x : α} {g : α → β} : Option.map g (some x) = some (g x) := id rfl
def kV (env : Env) (i : Nat) : Option (Option T) → Option (T × Env)
  | some (some (.p d)) => some (.p d, env)
  | some (some t) => some (.p t.toD, env.set i (some (.p t.toD)))
  | _ => none
theorem eV_q : eV i env = kV env i env[i]? := id rfl
theorem kV_p : kV env i (some (some (.p d))) = some (.p d, env) := id rfl
theorem kV_l : kV env i (some (some (.lst ts))) = some (.p (T.lst ts).toD, env.set i (some (.p (T.lst ts).toD))) := id rfl
theorem kV_t : kV env i (some (some (.tup ts))) = some (.p (T.tup ts).toD, env.set i (some (.p (T.tup ts).toD))) := id rfl
def kM (env : Env) (i : Nat) : Option (Option T) → Option (T × Env)
  | some (some t) => some (t, env.set i none)
  | _ => none
theorem eM_q : eM i env = kM env i env[i]? := id rfl
theorem kM_s : kM env i (some (some t)) = some (t, env.set i none) := id rfl
def kB (env : Env) : Option (Option T) → Option (T × Env)
  | some (some t) => some (t, env)
  | _ => none
theorem eB_q : eB i env = kB env env[i]? := id rfl
theorem kB_s : kB env (some (some t)) = some (t, env) := id rfl
theorem eC_q : eC d env = some (.p d, env) := id rfl
def kW : T × Env → Option (T × Env)
  | (.p d, e) => some (.p d, e)
  | _ => none
theorem eW_q : eW f env = (f env).bind kW := by
  unfold eW; congr 1; funext r; obtain ⟨t, e⟩ := r; cases t <;> rfl
theorem kW_p : kW (.p d, e) = some (.p d, e) := id rfl
theorem aN_q : aN env = some ([], env) := id rfl
def kCons (t : T) (y : List T × Env) : List T × Env := (t :: y.1, y.2)
def kAC (r : AF) (x : T × Env) : Option (List T × Env) := (r x.2).map (kCons x.1)
theorem aC_q : aC f r env = (f env).bind (kAC r) := id rfl
theorem kAC_q : kAC r (t, e) = (r e).map (kCons t) := id rfl
theorem kCons_q : kCons t (ts, e) = (t :: ts, e) := id rfl
def kMv3 (ts : List T) (e : Env) (i : Nat) : Option (Option T) → Option (List T × Env)
  | some (some t) => some (t :: ts, e.set i none)
  | _ => none
def kMv2 (i : Nat) (y : List T × Env) : Option (List T × Env) := kMv3 y.1 y.2 i y.2[i]?
def kMv (i : Nat) (r : AF) (env : Env) : Option (Option T) → Option (List T × Env)
  | some (some _) => (r env).bind (kMv2 i)
  | _ => none
theorem aMv_q : aMv i r env = kMv i r env env[i]? := id rfl
theorem kMv_s : kMv i r env (some (some t)) = (r env).bind (kMv2 i) := id rfl
theorem kMv2_q : kMv2 i (ts, e) = kMv3 ts e i e[i]? := id rfl
theorem kMv3_s : kMv3 ts e i (some (some t)) = some (t :: ts, e.set i none) := id rfl
def kL (x : List T × Env) : Option (T × Env) := if x.1.length ≤ 1000 then some (.lst x.1, x.2) else none
theorem eL_q : eL r env = (r env).bind kL := id rfl
theorem kL_q : kL (ts, e) = if ts.length ≤ 1000 then some (.lst ts, e) else none := id rfl
def kT (x : List T × Env) : Option (T × Env) := if x.1.length ≤ 1000 then some (mkTup x.1, x.2) else none
theorem eT_q : eT r env = (r env).bind kT := id rfl
theorem kT_q : kT (ts, e) = if ts.length ≤ 1000 then some (mkTup ts, e) else none := id rfl
def kP (e : Env) (d : D) : T × Env := (.p d, e)
theorem kP_q : kP e d = (.p d, e) := id rfl
def kBl (e : Env) (c : Bool) : T × Env := (.p (.bl c), e)
theorem kBl_q {c : Bool} : kBl e c = (.p (.bl c), e) := id rfl
def kT2 (e : Env) (t : T) : T × Env := (t, e)
theorem kT2_q : kT2 e t = (t, e) := id rfl
def kFz (r : T × Env) : T × Env := (.p r.1.toD, r.2)
theorem eFz_q : eFz f env = (f env).map kFz := id rfl
theorem kFz_q : kFz (t, e) = (.p t.toD, e) := id rfl
def kOp2 (g : D → D → Option D) (x : T) : T × Env → Option (T × Env)
  | (.p b, e) => match x with | .p a => (g a b).map (kP e) | _ => none
  | _ => none
def kOp1 (g : D → D → Option D) (fb : EF) (x : T × Env) : Option (T × Env) := (fb x.2).bind (kOp2 g x.1)
theorem eOp_q {g : D → D → Option D} : eOp g fa fb env = (fa env).bind (kOp1 g fb) := by
  unfold eOp; congr 1; funext x; unfold kOp1; congr 1; funext y; obtain ⟨y, e⟩ := y; obtain ⟨x, e'⟩ := x; cases x <;> cases y <;> rfl
theorem kOp1_q {g : D → D → Option D} : kOp1 g fb (t, e) = (fb e).bind (kOp2 g t) := id rfl
theorem kOp2_q {g : D → D → Option D} : kOp2 g (.p a) (.p b, e) = (g a b).map (kP e) := id rfl
def kCm2 (g : D → D → Option Bool) (x : T) (y : T × Env) : Option (T × Env) := (g x.toD y.1.toD).map (kBl y.2)
def kCm1 (g : D → D → Option Bool) (fb : EF) (x : T × Env) : Option (T × Env) := (fb x.2).bind (kCm2 g x.1)
theorem eCmp_q {g : D → D → Option Bool} : eCmp g fa fb env = (fa env).bind (kCm1 g fb) := id rfl
theorem kCm1_q {g : D → D → Option Bool} : kCm1 g fb (t, e) = (fb e).bind (kCm2 g t) := id rfl
theorem kCm2_q {g : D → D → Option Bool} : kCm2 g t (u, e) = (g t.toD u.toD).map (kBl e) := id rfl
def kNeg : T × Env → Option (T × Env)
  | (.p (.int i), e) => some (.p (.int (-i)), e)
  | _ => none
theorem eNeg_q : eNeg f env = (f env).bind kNeg := by
  unfold eNeg; congr 1; funext x; obtain ⟨x, e⟩ := x; cases x with
  | p d => cases d <;> rfl
  | _ => rfl
theorem kNeg_q : kNeg (.p (.int z), e) = some (.p (.int (-z)), e) := id rfl
def kCh3 (g : Int → Int → Bool) (j : Int) : T × Env → Option (T × Env)
  | (.p (.int k), e) => some (.p (.bl (g j k)), e)
  | _ => none
def kCh2 (f g : Int → Int → Bool) (fc : EF) (x : T) (y : T × Env) : Option (T × Env) := match x, y.1 with
  | .p (.int i), .p (.int j) => if f i j then (fc y.2).bind (kCh3 g j) else some (.p (.bl false), y.2)
  | _, _ => none
def kCh1 (f g : Int → Int → Bool) (fb fc : EF) (x : T × Env) : Option (T × Env) := (fb x.2).bind (kCh2 f g fc x.1)
theorem eChain_q {f g : Int → Int → Bool} : eChain f g fa fb fc env = (fa env).bind (kCh1 f g fb fc) := by
  unfold eChain; congr 1; funext x; unfold kCh1; congr 1; funext y
  obtain ⟨x, ex⟩ := x; obtain ⟨y, ey⟩ := y
  cases x with
  | p d => cases d with
    | int i => cases y with
      | p d2 => cases d2 with
        | int j =>
          show (if f i j = true then _ else _) = (if f i j = true then _ else _)
          congr 1; congr 1; funext z; obtain ⟨z, e⟩ := z; cases z with
            | p d => cases d <;> rfl
            | _ => rfl
        | _ => rfl
      | _ => rfl
    | _ => rfl
  | _ => rfl
theorem kCh1_q {f g : Int → Int → Bool} : kCh1 f g fb fc (t, e) = (fb e).bind (kCh2 f g fc t) := id rfl
theorem kCh2_q {f g : Int → Int → Bool} : kCh2 f g fc (.p (.int z)) (.p (.int w), e) = if f z w then (fc e).bind (kCh3 g w) else some (.p (.bl false), e) := id rfl
theorem kCh3_q {g : Int → Int → Bool} : kCh3 g z (.p (.int w), e) = some (.p (.bl (g z w)), e) := id rfl
def kcT : T × Env → Option (Bool × Env)
  | (.p (.bl b), e) => some (b, e)
  | _ => none
theorem cT_q : cT f env = (f env).bind kcT := by
  unfold cT; congr 1; funext x; obtain ⟨x, e⟩ := x; cases x with
  | p d => cases d <;> rfl
  | _ => rfl
theorem kcT_q {b : Bool} : kcT (.p (.bl b), e) = some (b, e) := id rfl
def kNot (r : Bool × Env) : Bool × Env := (!r.1, r.2)
theorem cNot_q : cNot c env = (c env).map kNot := id rfl
theorem kNot_q {b : Bool} : kNot (b, e) = (!b, e) := id rfl
def kcAnd (d : CF) (r : Bool × Env) : Option (Bool × Env) := if r.1 then d r.2 else some (false, r.2)
theorem cAnd_q : cAnd c c2 env = (c env).bind (kcAnd c2) := id rfl
theorem kcAnd_t : kcAnd c (true, e) = c e := id rfl
theorem kcAnd_f : kcAnd c (false, e) = some (false, e) := id rfl
def kcOr (d : CF) (r : Bool × Env) : Option (Bool × Env) := if r.1 then some (true, r.2) else d r.2
theorem cOr_q : cOr c c2 env = (c env).bind (kcOr c2) := id rfl
theorem kcOr_t : kcOr c (true, e) = some (true, e) := id rfl
theorem kcOr_f : kcOr c (false, e) = c e := id rfl
def keIf (fa fb : EF) (r : Bool × Env) : Option (T × Env) := if r.1 then fa r.2 else fb r.2
theorem eIf_q : eIf c fa fb env = (c env).bind (keIf fa fb) := id rfl
theorem keIf_t : keIf fa fb (true, e) = fa e := id rfl
theorem keIf_f : keIf fa fb (false, e) = fb e := id rfl
def keAnd (fb : EF) (r : Bool × Env) : Option (T × Env) := if r.1 then fb r.2 else some (.p (.bl false), r.2)
theorem eAnd_q : eAnd fa fb env = (cT fa env).bind (keAnd fb) := id rfl
theorem keAnd_t : keAnd fb (true, e) = fb e := id rfl
theorem keAnd_f : keAnd fb (false, e) = some (.p (.bl false), e) := id rfl
def keOr (fb : EF) (r : Bool × Env) : Option (T × Env) := if r.1 then some (.p (.bl true), r.2) else fb r.2
theorem eOr_q : eOr fa fb env = (cT fa env).bind (keOr fb) := id rfl
theorem keOr_t : keOr fb (true, e) = some (.p (.bl true), e) := id rfl
theorem keOr_f : keOr fb (false, e) = fb e := id rfl
def keNot (r : Bool × Env) : T × Env := (.p (.bl (!r.1)), r.2)
theorem eNot_q : eNot fa env = (cT fa env).map keNot := id rfl
theorem keNot_q {b : Bool} : keNot (b, e) = (.p (.bl (!b)), e) := id rfl
def kcIf (F1 F2 : SF) (r : Bool × Env) : Option (Fl × Env) := if r.1 then F1 r.2 else F2 r.2
theorem sIf_q : sIf c F1 F2 env = (c env).bind (kcIf F1 F2) := id rfl
theorem kcIf_t : kcIf F1 F2 (true, e) = F1 e := id rfl
theorem kcIf_f : kcIf F1 F2 (false, e) = F2 e := id rfl
def kB1 (g : T → Option D) (x : T × Env) : Option (T × Env) := (g x.1).map (kP x.2)
theorem eB1_q {g : T → Option D} : eB1 g f env = (f env).bind (kB1 g) := id rfl
theorem kB1_q {g : T → Option D} : kB1 g (t, e) = (g t).map (kP e) := id rfl
def kI2 (g : Int → Int → Int) (r : List T × Env) : Option (T × Env) := match r.1 with
  | [.p (.int i), .p (.int j)] => some (.p (.int (g i j)), r.2)
  | _ => none
theorem eI2_q {g : Int → Int → Int} : eI2 g r env = (r env).bind (kI2 g) := id rfl
theorem kI2_q {g : Int → Int → Int} : kI2 g ([.p (.int z), .p (.int w)], e) = some (.p (.int (g z w)), e) := id rfl
def kIsi (ty : String) (x : T × Env) : Option (T × Env) := if tyOk x.1.toD = true then (kitB (tyD x.1.toD) ty).map (kBl x.2) else none
theorem eIsi_q {ty : String} : eIsi ty f env = (f env).bind (kIsi ty) := id rfl
theorem kIsi_q {ty : String} : kIsi ty (t, e) = if tyOk t.toD = true then (kitB (tyD t.toD) ty).map (kBl e) else none := id rfl
def kLst (e : Env) (ds : List D) : T × Env := (.lst (ds.map T.p), e)
theorem kLst_q : kLst e ds = (.lst (ds.map T.p), e) := id rfl
def kList (x : T × Env) : Option (T × Env) := (itemsT x.1).map (kLst x.2)
theorem eList_q : eList f env = (f env).bind kList := id rfl
theorem kList_q : kList (t, e) = (itemsT t).map (kLst e) := id rfl
def kTpl (e : Env) (ds : List D) : T × Env := (.p (.tup ds), e)
theorem kTpl_q : kTpl e ds = (.p (.tup ds), e) := id rfl
def kTuple (x : T × Env) : Option (T × Env) := (itemsT x.1).map (kTpl x.2)
theorem eTuple_q : eTuple f env = (f env).bind kTuple := id rfl
theorem kTuple_q : kTuple (t, e) = (itemsT t).map (kTpl e) := id rfl
def kCall2 (φ : List D → Option T) (e : Env) (ds : List D) : Option (T × Env) := (φ ds).map (kT2 e)
def kCall (φ : List D → Option T) (r : List T × Env) : Option (T × Env) := (allP r.1).bind (kCall2 φ r.2)
theorem eCall_q {φ : List D → Option T} : eCall φ r env = (r env).bind (kCall φ) := id rfl
theorem kCall_q {φ : List D → Option T} : kCall φ (ts, e) = (allP ts).bind (kCall2 φ e) := id rfl
theorem kCall2_q {φ : List D → Option T} : kCall2 φ e ds = (φ ds).map (kT2 e) := id rfl
def kCl (e : Env) (t : T) : Option (T × Env) := if cleanT t then some (t, e) else none
def kCallB (φ : List D → Option T) (r : List T × Env) : Option (T × Env) := (φ (T.toDs r.1)).bind (kCl r.2)
theorem eCallB_q {φ : List D → Option T} : eCallB φ r env = (r env).bind (kCallB φ) := id rfl
theorem kCallB_q {φ : List D → Option T} : kCallB φ (ts, e) = (φ (T.toDs ts)).bind (kCl e) := id rfl
theorem kCl_q : kCl e t = if cleanT t then some (t, e) else none := id rfl
theorem allP_n : allP [] = some [] := id rfl
theorem allP_c : allP (.p d :: ts) = (allP ts).map (List.cons d) := id rfl
def kIx2 (x : T) : T × Env → Option (T × Env)
  | (.p (.int i), e) => (ixT x i).map (kT2 e)
  | _ => none
def kIx1 (fi : EF) (x : T × Env) : Option (T × Env) := (fi x.2).bind (kIx2 x.1)
theorem eIx_q : eIx fa fb env = (fa env).bind (kIx1 fb) := by
  unfold eIx; congr 1; funext x; unfold kIx1; congr 1; funext y; obtain ⟨y, e⟩ := y; cases y with
  | p d => cases d <;> rfl
  | _ => rfl
theorem kIx1_q : kIx1 fb (t, e) = (fb e).bind (kIx2 t) := id rfl
theorem kIx2_q : kIx2 t (.p (.int z), e) = (ixT t z).map (kT2 e) := id rfl
theorem oN_q : oN env = some (none, env) := id rfl
def koS : T × Env → Option (Option Int × Env)
  | (.p (.int i), e) => some (some i, e)
  | _ => none
theorem oS_q : oS f env = (f env).bind koS := by
  unfold oS; congr 1; funext x; obtain ⟨x, e⟩ := x; cases x with
  | p d => cases d <;> rfl
  | _ => rfl
theorem koS_q : koS (.p (.int z), e) = some (some z, e) := id rfl
def kSl3 (x : T) (l : Option Int) (u : Option Int × Env) : Option (T × Env) := (cutT x l u.1).map (kT2 u.2)
def kSl2 (x : T) (hi : OF) (l : Option Int × Env) : Option (T × Env) := (hi l.2).bind (kSl3 x l.1)
def kSl1 (lo hi : OF) (x : T × Env) : Option (T × Env) := (lo x.2).bind (kSl2 x.1 hi)
theorem eSl_q {lo hi : OF} : eSl fa lo hi env = (fa env).bind (kSl1 lo hi) := id rfl
theorem kSl1_q {lo hi : OF} : kSl1 lo hi (t, e) = (lo e).bind (kSl2 t hi) := id rfl
theorem kSl2_q {hi : OF} {l : Option Int} : kSl2 t hi (l, e) = (hi e).bind (kSl3 t l) := id rfl
theorem kSl3_q {l u : Option Int} : kSl3 t l (u, e) = (cutT t l u).map (kT2 e) := id rfl
theorem cutT_p {l u : Option Int} : cutT (.p (.lst ds)) l u = some (.lst ((cutD ds l u).map T.p)) := id rfl
theorem cutT_l {l u : Option Int} : cutT (.lst (ds.map T.p)) l u = some (.lst ((cutD ds l u).map T.p)) := by
  show (allP (ds.map T.p)).map _ = _
  have : allP (ds.map T.p) = some ds := by
    induction ds with
    | nil => rfl
    | cons d ds ih => simp [allP, ih]
  rw [this]; rfl
theorem cutT_s {l u : Option Int} {s : Str} (h : s.length ≤ 16777216) : cutT (.p (.str s)) l u = some (.p (.str (cutS s l u))) := if_pos h
theorem sNx_q : sNx env = some (.nx, env) := id rfl
theorem sBk_q : sBk env = some (.bk, env) := id rfl
theorem sCt_q : sCt env = some (.ct, env) := id rfl
theorem sRetN_q : sRetN env = some (.rt (.p .non), env) := id rfl
def kSeq (F2 : SF) (r : Fl × Env) : Option (Fl × Env) := match r.1 with
  | .nx => F2 r.2
  | .rt t => some (.rt t, r.2)
  | .bk => some (.bk, r.2)
  | .ct => some (.ct, r.2)
theorem sSeq_q : sSeq F1 F2 env = (F1 env).bind (kSeq F2) := id rfl
theorem kSeq_n : kSeq F (.nx, e) = F e := id rfl
theorem kSeq_r : kSeq F (.rt t, e) = some (.rt t, e) := id rfl
theorem kSeq_b : kSeq F (.bk, e) = some (.bk, e) := id rfl
theorem kSeq_c : kSeq F (.ct, e) = some (.ct, e) := id rfl
def kRet (r : T × Env) : Fl × Env := (.rt r.1, r.2)
theorem sRet_q : sRet f env = (f env).map kRet := id rfl
theorem kRet_q : kRet (t, e) = (.rt t, e) := id rfl
def kSet (i : Nat) (r : T × Env) : Option (Fl × Env) := if i < r.2.length then some (.nx, r.2.set i (some r.1)) else none
theorem sSet_q : sSet i f env = (f env).bind (kSet i) := id rfl
theorem kSet_q : kSet i (t, e) = if i < e.length then some (.nx, e.set i (some t)) else none := id rfl
def kDrop (r : T × Env) : Fl × Env := (.nx, r.2)
theorem sDrop_q : sDrop f env = (f env).map kDrop := id rfl
theorem kDrop_q : kDrop (t, e) = (.nx, e) := id rfl
theorem gNm_q : gNm i t env = if i < env.length then some (env.set i (some t)) else none := id rfl
theorem gEnd_q : gEnd [] env = some env := id rfl
theorem gAnd_q : gAnd G gs (t :: ts) env = (G t env).bind (gs ts) := id rfl
def kTp (n : Nat) (g : GsF) (env : Env) (us : List T) : Option Env := if us.length = n then g us env else none
theorem gTp_q : gTp n gs t env = (partsT t).bind (kTp n gs env) := id rfl
theorem kTp_q : kTp n gs env ts = if ts.length = n then gs ts env else none := id rfl
theorem partsT_p : partsT (.p (.tup ds)) = some (ds.map T.p) := id rfl
theorem partsT_t : partsT (.tup ts) = some ts := id rfl
def kNx (e : Env) : Fl × Env := (.nx, e)
theorem kNx_q : kNx e = (.nx, e) := id rfl
def kAsg (G : GF) (r : T × Env) : Option (Fl × Env) := (G r.1 r.2).map kNx
theorem sAsg_q : sAsg f G env = (f env).bind (kAsg G) := id rfl
theorem kAsg_q : kAsg G (t, e) = (G t e).map kNx := id rfl
def kFor (G : GF) (body : SF) (r : List D × Env) : Option (Fl × Env) := loopD G body r.1 r.2
theorem sFor_q {fi : IF} : sFor fi G F env = (fi env).bind (kFor G F) := id rfl
theorem kFor_q : kFor G F (ds, e) = loopD G F ds e := id rfl
def kLp2 (G : GF) (body : SF) (ds : List D) (r : Fl × Env) : Option (Fl × Env) := match r.1 with
  | .nx => loopD G body ds r.2
  | .ct => loopD G body ds r.2
  | .bk => some (.nx, r.2)
  | .rt t => some (.rt t, r.2)
def kLp1 (G : GF) (body : SF) (ds : List D) (e : Env) : Option (Fl × Env) := (body e).bind (kLp2 G body ds)
theorem loop_n : loopD G F [] env = some (.nx, env) := id rfl
theorem loop_c : loopD G F (d :: ds) env = (G (.p d) env).bind (kLp1 G F ds) := id rfl
theorem kLp1_q : kLp1 G F ds e = (F e).bind (kLp2 G F ds) := id rfl
theorem kLp2_n : kLp2 G F ds (.nx, e) = loopD G F ds e := id rfl
theorem kLp2_c : kLp2 G F ds (.ct, e) = loopD G F ds e := id rfl
theorem kLp2_b : kLp2 G F ds (.bk, e) = some (.nx, e) := id rfl
theorem kLp2_r : kLp2 G F ds (.rt t, e) = some (.rt t, e) := id rfl
def kiL (r : T × Env) : Option (List D × Env) := match r.1 with | .p (.lst ds) => some (ds, r.2) | _ => none
theorem iL_q : iL f env = (f env).bind kiL := id rfl
theorem kiL_q : kiL (.p (.lst ds), e) = some (ds, e) := id rfl
def kiTp (r : T × Env) : Option (List D × Env) := match r.1 with | .p (.tup ds) => some (ds, r.2) | _ => none
theorem iTp_q : iTp f env = (f env).bind kiTp := id rfl
theorem kiTp_q : kiTp (.p (.tup ds), e) = some (ds, e) := id rfl
def kiSg (r : T × Env) : Option (List D × Env) := match r.1 with
  | .p (.str z) => some (signsD z, r.2)
  | _ => none
theorem iSg_q : iSg f env = (f env).bind kiSg := id rfl
theorem kiSg_q {s : Str} : kiSg (.p (.str s), e) = some (signsD s, e) := id rfl
def kR1 (r : List T × Env) : Option (List D × Env) := match r.1 with
  | [.p (.int j)] => if j < 4611686018427387904 ∧ -4611686018427387904 ≤ j then some (rngD 0 j.toNat, r.2) else none
  | _ => none
theorem iR1_q : iR1 r env = (r env).bind kR1 := id rfl
theorem kR1_q (h1 : -4611686018427387904 ≤ z) (h2 : z < 4611686018427387904) : kR1 ([.p (.int z)], e) = some (rngD 0 z.toNat, e) := if_pos ⟨h2, h1⟩
def kR2 (r : List T × Env) : Option (List D × Env) := match r.1 with
  | [.p (.int i), .p (.int j)] => if (i < 4611686018427387904 ∧ -4611686018427387904 ≤ i) ∧ (j < 4611686018427387904 ∧ -4611686018427387904 ≤ j) then some (rngD i (j - i).toNat, r.2) else none
  | _ => none
theorem iR2_q : iR2 r env = (r env).bind kR2 := id rfl
theorem kR2_q (h1 : -4611686018427387904 ≤ z) (h2 : z < 4611686018427387904) (h3 : -4611686018427387904 ≤ w) (h4 : w < 4611686018427387904) : kR2 ([.p (.int z), .p (.int w)], e) = some (rngD z (w - z).toNat, e) := if_pos ⟨⟨h2, h1⟩, h4, h3⟩
def kEn (r : List T × Env) : Option (List D × Env) := match r.1 with
  | [.p (.lst ds)] => some (enumD 0 ds, r.2)
  | _ => none
theorem iEn_q : iEn r env = (r env).bind kEn := id rfl
theorem kEn_q : kEn ([.p (.lst ds)], e) = some (enumD 0 ds, e) := id rfl
def kZp (r : List T × Env) : Option (List D × Env) := match r.1 with
  | [.p (.lst ds), .p (.lst es)] => some (zipD ds es, r.2)
  | [.p (.tup ds), .p (.tup es)] => some (zipD ds es, r.2)
  | _ => none
theorem iZp_q : iZp r env = (r env).bind kZp := id rfl
theorem kZp_q : kZp ([.p (.lst ds), .p (.lst es)], e) = some (zipD ds es, e) := id rfl
theorem kZp_t : kZp ([.p (.tup ds), .p (.tup es)], e) = some (zipD ds es, e) := id rfl
def kForV2 (us : List T) (i : Nat) (r : Fl × Env) : Fl × Env := (r.1, match r.1 with
  | .rt _ => r.2
  | _ => r.2.set i (some (.lst us)))
def kForV1 (i : Nat) (G : GF) (body : SF) (env : Env) (us : List T) (ds : List D) : Option (Fl × Env) := (loopD G body ds (env.set i none)).map (kForV2 us i)
def kForV (i : Nat) (G : GF) (body : SF) (env : Env) (us : List T) : Option (Fl × Env) := (allP us).bind (kForV1 i G body env us)
theorem sForV_q : sForV i G F env = (atL env i).bind (kForV i G F env) := id rfl
theorem kForV_q : kForV i G F env us = (allP us).bind (kForV1 i G F env us) := id rfl
theorem kForV1_q : kForV1 i G F env us ds = (loopD G F ds (env.set i none)).map (kForV2 us i) := id rfl
theorem kForV2_n : kForV2 us i (.nx, e) = (.nx, e.set i (some (.lst us))) := id rfl
theorem kForV2_r : kForV2 us i (.rt t, e) = (.rt t, e) := id rfl
def kAtL : Option (Option T) → Option (List T)
  | some (some (.lst us)) => some us
  | _ => none
theorem atL_q : atL env i = kAtL env[i]? := id rfl
theorem kAtL_q : kAtL (some (some (.lst us))) = some us := id rfl
def kApp2 (i : Nat) (t : T) (e : Env) (us : List T) : Option (Fl × Env) := if us.length < 16000000 then some (.nx, e.set i (some (.lst (us ++ [t])))) else none
def kApp1 (i : Nat) (r : T × Env) : Option (Fl × Env) := (atL r.2 i).bind (kApp2 i r.1 r.2)
def kApp (i : Nat) (f : EF) (env : Env) (_ : List T) : Option (Fl × Env) := (f env).bind (kApp1 i)
theorem sApp_q : sApp i f env = (atL env i).bind (kApp i f env) := by
  unfold sApp atL
  split
  · rename_i h
    show _ = (f env).bind (kApp1 i)
    congr 1; funext r; unfold kApp1 atL
    split <;> rfl
  · rfl
theorem kApp_q : kApp i f env us = (f env).bind (kApp1 i) := id rfl
theorem kApp1_q : kApp1 i (t, e) = (atL e i).bind (kApp2 i t e) := id rfl
theorem kApp2_q : kApp2 i t e us = if us.length < 16000000 then some (.nx, e.set i (some (.lst (us ++ [t])))) else none := id rfl
def kPutEnd (i : Nat) (t : T) (e : Env) (us : List T) (k : Nat) : Fl × Env := (.nx, e.set i (some (.lst (us.set k t))))
def kPut4 (i : Nat) (t : T) (e : Env) (j : Int) (us : List T) : Option (Fl × Env) := (ixN us.length j).map (kPutEnd i t e us)
def kPut3 (i : Nat) (t : T) (e : Env) (j : Int) : Option (Fl × Env) := (atL e i).bind (kPut4 i t e j)
def kPut2 (i : Nat) (t : T) (s : T × Env) : Option (Fl × Env) := (asI s.1).bind (kPut3 i t s.2)
def kPut1 (i : Nat) (fj : EF) (r : T × Env) (_ : List T) : Option (Fl × Env) := (fj r.2).bind (kPut2 i r.1)
def kPut (i : Nat) (fj : EF) (r : T × Env) : Option (Fl × Env) := (atL r.2 i).bind (kPut1 i fj r)
theorem sPut_q : sPut i fa f env = (f env).bind (kPut i fa) := id rfl
theorem kPut_q : kPut i fa (t, e) = (atL e i).bind (kPut1 i fa (t, e)) := id rfl
theorem kPut1_q : kPut1 i fa (t, e) us = (fa e).bind (kPut2 i t) := id rfl
theorem kPut2_q : kPut2 i t (u, e) = (asI u).bind (kPut3 i t e) := id rfl
theorem kPut3_q : kPut3 i t e z = (atL e i).bind (kPut4 i t e z) := id rfl
theorem kPut4_q : kPut4 i t e z us = (ixN us.length z).map (kPutEnd i t e us) := id rfl
theorem kPutEnd_q : kPutEnd i t e us k = (.nx, e.set i (some (.lst (us.set k t)))) := id rfl
theorem asI_q : asI (.p (.int z)) = some z := id rfl
def kAx8 (i : Nat) (h : Int → Int → Int) (x y : Int) (e : Env) (us : List T) (k : Nat) : Fl × Env := (.nx, e.set i (some (.lst (us.set k (.p (.int (h x y)))))))
def kAx7 (i : Nat) (h : Int → Int → Int) (j x y : Int) (e : Env) (us : List T) : Option (Fl × Env) := (ixN us.length j).map (kAx8 i h x y e us)
def kAx6 (i : Nat) (h : Int → Int → Int) (j x : Int) (e : Env) (y : Int) : Option (Fl × Env) := (atL e i).bind (kAx7 i h j x y e)
def kAx5 (i : Nat) (h : Int → Int → Int) (j x : Int) (r : T × Env) : Option (Fl × Env) := (asI r.1).bind (kAx6 i h j x r.2)
def kAx4 (i : Nat) (h : Int → Int → Int) (f : EF) (j : Int) (e : Env) (x : Int) : Option (Fl × Env) := (f e).bind (kAx5 i h j x)
def kAx3 (i : Nat) (h : Int → Int → Int) (f : EF) (j : Int) (e : Env) (t : T) : Option (Fl × Env) := (asI t).bind (kAx4 i h f j e)
def kAx2 (i : Nat) (h : Int → Int → Int) (f : EF) (j : Int) (e : Env) (us : List T) : Option (Fl × Env) := (atI us j).bind (kAx3 i h f j e)
def kAx1 (i : Nat) (h : Int → Int → Int) (f : EF) (e : Env) (j : Int) : Option (Fl × Env) := if 0 ≤ j then (atL e i).bind (kAx2 i h f j e) else none
def kAx0 (i : Nat) (h : Int → Int → Int) (f : EF) (s : T × Env) : Option (Fl × Env) := (asI s.1).bind (kAx1 i h f s.2)
def kAx (i : Nat) (h : Int → Int → Int) (fj f : EF) (env : Env) (_ : List T) : Option (Fl × Env) := (fj env).bind (kAx0 i h f)
variable {h : Int → Int → Int} {x y : Int}
theorem sAugIx_q : sAugIx i h fa f env = (atL env i).bind (kAx i h fa f env) := id rfl
theorem kAx_q : kAx i h fa f env us = (fa env).bind (kAx0 i h f) := id rfl
theorem kAx0_q : kAx0 i h f (t, e) = (asI t).bind (kAx1 i h f e) := id rfl
theorem kAx1_q (hz : 0 ≤ z) : kAx1 i h f e z = (atL e i).bind (kAx2 i h f z e) := if_pos hz
theorem kAx2_q : kAx2 i h f z e us = (atI us z).bind (kAx3 i h f z e) := id rfl
theorem kAx3_q : kAx3 i h f z e t = (asI t).bind (kAx4 i h f z e) := id rfl
theorem kAx4_q : kAx4 i h f z e x = (f e).bind (kAx5 i h z x) := id rfl
theorem kAx5_q : kAx5 i h z x (t, e) = (asI t).bind (kAx6 i h z x e) := id rfl
theorem kAx6_q : kAx6 i h z x e y = (atL e i).bind (kAx7 i h z x y e) := id rfl
theorem kAx7_q : kAx7 i h z x y e us = (ixN us.length z).map (kAx8 i h x y e us) := id rfl
theorem kAx8_q : kAx8 i h x y e us k = (.nx, e.set i (some (.lst (us.set k (.p (.int (h x y))))))) := id rfl
def kAug3 (i : Nat) (e : Env) (d : D) : Option (Fl × Env) := if i < e.length then some (.nx, e.set i (some (.p d))) else none
def kAug2 (i : Nat) (g : D → D → Option D) (a : D) : T × Env → Option (Fl × Env)
  | (.p b, e) => (g a b).bind (kAug3 i e)
  | _ => none
def kAug (i : Nat) (g : D → D → Option D) (f : EF) (env : Env) : Option (Option T) → Option (Fl × Env)
  | some (some (.p a)) => (f env).bind (kAug2 i g a)
  | _ => none
theorem sAug_q {g : D → D → Option D} : sAug i g f env = kAug i g f env env[i]? := by
  unfold sAug
  generalize env[i]? = o
  cases o with
  | none => rfl
  | some o => cases o with
    | none => rfl
    | some t => cases t with
      | p a =>
        show (f env).bind _ = (f env).bind _
        congr 1; funext r; obtain ⟨r, e⟩ := r; cases r <;> rfl
      | _ => rfl
theorem kAug_q {g : D → D → Option D} : kAug i g f env (some (some (.p a))) = (f env).bind (kAug2 i g a) := id rfl
theorem kAug2_q {g : D → D → Option D} : kAug2 i g a (.p b, e) = (g a b).bind (kAug3 i e) := id rfl
theorem kAug3_q : kAug3 i e d = if i < e.length then some (.nx, e.set i (some (.p d))) else none := id rfl
def kCp4 (t : T) (z : List T × Env) : List T × Env := (t :: z.1, z.2)
def kCp3 (own : List Nat) (G : GF) (test : CF) (elt : EF) (ds : List D) (s : T × Env) : Option (List T × Env) := (compD own G test elt ds (wipeE s.2 own)).map (kCp4 s.1)
def kCp2 (own : List Nat) (G : GF) (test : CF) (elt : EF) (ds : List D) (r : Bool × Env) : Option (List T × Env) := if r.1 then (elt r.2).bind (kCp3 own G test elt ds) else compD own G test elt ds (wipeE r.2 own)
def kCp1 (own : List Nat) (G : GF) (test : CF) (elt : EF) (ds : List D) (e1 : Env) : Option (List T × Env) := (test e1).bind (kCp2 own G test elt ds)
variable {own : List Nat}
theorem comp_n : compD own G c f [] env = some ([], env) := id rfl
theorem comp_c : compD own G c f (d :: ds) env = (G (.p d) env).bind (kCp1 own G c f ds) := id rfl
theorem kCp1_q : kCp1 own G c f ds e = (c e).bind (kCp2 own G c f ds) := id rfl
theorem kCp2_t : kCp2 own G c f ds (true, e) = (f e).bind (kCp3 own G c f ds) := id rfl
theorem kCp2_f : kCp2 own G c f ds (false, e) = compD own G c f ds (wipeE e own) := id rfl
theorem kCp3_q : kCp3 own G c f ds (t, e) = (compD own G c f ds (wipeE e own)).map (kCp4 t) := id rfl
theorem kCp4_q : kCp4 t (ts, e) = (t :: ts, e) := id rfl
def kLs (z : List T × Env) : T × Env := (.lst z.1, z.2)
def kComp (own : List Nat) (G : GF) (test : CF) (elt : EF) (r : List D × Env) : Option (T × Env) := if r.1.length ≤ 1000000 then (compD own G test elt r.1 (wipeE r.2 own)).map kLs else none
theorem eComp_q {fi : IF} : eComp own fi G c f env = (fi env).bind (kComp own G c f) := id rfl
theorem kComp_q : kComp own G c f (ds, e) = if ds.length ≤ 1000000 then (compD own G c f ds (wipeE e own)).map kLs else none := id rfl
theorem kLs_q : kLs (ts, e) = (.lst ts, e) := id rfl
theorem cYes_q : cYes env = some (true, env) := id rfl
theorem wipe_n : wipeE env [] = env := id rfl
theorem wipe_c {v : Nat} {vs : List Nat} : wipeE env (v :: vs) = (wipeE env vs).set v none := id rfl
def kM12 (g : Str → Str → Option D) (x : T) : T × Env → Option (T × Env)
  | (.p (.str b), e) => match x with | .p (.str a) => (g a b).map (kP e) | _ => none
  | _ => none
def kM11 (g : Str → Str → Option D) (fe : EF) (x : T × Env) : Option (T × Env) := (fe x.2).bind (kM12 g x.1)
theorem eM1_q {g : Str → Str → Option D} : eM1 g fa fb env = (fa env).bind (kM11 g fb) := by
  unfold eM1; congr 1; funext x; unfold kM11; congr 1; funext y; obtain ⟨y, e⟩ := y; obtain ⟨x, e'⟩ := x
  cases y with
  | p d2 => cases d2 with
    | str s2 => cases x with
      | p d => cases d <;> rfl
      | _ => rfl
    | _ => cases x with
      | p d => cases d <;> rfl
      | _ => rfl
  | _ => cases x with
    | p d => cases d <;> rfl
    | _ => rfl
theorem kM11_q {g : Str → Str → Option D} : kM11 g fb (t, e) = (fb e).bind (kM12 g t) := id rfl
theorem kM12_q {g : Str → Str → Option D} {s s' : Str} : kM12 g (.p (.str s)) (.p (.str s'), e) = (g s s').map (kP e) := id rfl
def kSp2 (x : T) (y : T × Env) : Option (T × Env) := match x, y.1 with
  | .p (.str a), .p (.str b) => if (b.length == 0) = false ∧ a.length + 2 ≤ 16777216 then some (.lst (((Txt.split a b).map D.str).map T.p), y.2) else none
  | _, _ => none
def kSp1 (fe : EF) (x : T × Env) : Option (T × Env) := (fe x.2).bind (kSp2 x.1)
theorem eSplit_q : eSplit fa fb env = (fa env).bind (kSp1 fb) := id rfl
theorem kSp1_q : kSp1 fb (t, e) = (fb e).bind (kSp2 t) := id rfl
theorem kSp2_q {s s' : Str} : kSp2 (.p (.str s)) (.p (.str s'), e) = if (s'.length == 0) = false ∧ s.length + 2 ≤ 16777216 then some (.lst (((Txt.split s s').map D.str).map T.p), e) else none := id rfl
def kJn4 (a : Str) (e : Env) (ys : List Str) : Option (T × Env) := if (ys.map (·.length)).sum + ys.length * a.length ≤ 16777216 then some (.p (.str (Txt.join a ys)), e) else none
def kJn3 (a : Str) (e : Env) (ds : List D) : Option (T × Env) := (strsD ds).bind (kJn4 a e)
def kJn2 (x : T) (y : T × Env) : Option (T × Env) := match x with
  | .p (.str a) => (itemsT y.1).bind (kJn3 a y.2)
  | _ => none
def kJn1 (fe : EF) (x : T × Env) : Option (T × Env) := (fe x.2).bind (kJn2 x.1)
theorem eJoin_q : eJoin fa fb env = (fa env).bind (kJn1 fb) := id rfl
theorem kJn1_q : kJn1 fb (t, e) = (fb e).bind (kJn2 t) := id rfl
theorem kJn2_q {s : Str} : kJn2 (.p (.str s)) (t, e) = (itemsT t).bind (kJn3 s e) := id rfl
theorem kJn3_q {s : Str} : kJn3 s e ds = (strsD ds).bind (kJn4 s e) := id rfl
theorem kJn4_q {s : Str} {ys : List Str} : kJn4 s e ys = if (ys.map (·.length)).sum + ys.length * s.length ≤ 16777216 then some (.p (.str (Txt.join s ys)), e) else none := id rfl
def kCt3 (x y : T) (e : Env) (ds es : List D) : Option (T × Env) := if isLT x = true ∧ isLT y = true ∧ ds.length + es.length ≤ 16777216 then some (.lst ((ds ++ es).map T.p), e) else none
def kCt2 (x y : T) (e : Env) (ds : List D) : Option (T × Env) := (itemsT y).bind (kCt3 x y e ds)
def kCt1 (x : T) (y : T × Env) : Option (T × Env) := (itemsT x).bind (kCt2 x y.1 y.2)
def kCt0 (fb : EF) (x : T × Env) : Option (T × Env) := (fb x.2).bind (kCt1 x.1)
theorem eCat_q : eCat fa fb env = (fa env).bind (kCt0 fb) := id rfl
theorem kCt0_q : kCt0 fb (t, e) = (fb e).bind (kCt1 t) := id rfl
theorem kCt1_q : kCt1 t (u, e) = (itemsT t).bind (kCt2 t u e) := id rfl
theorem kCt2_q : kCt2 t u e ds = (itemsT u).bind (kCt3 t u e ds) := id rfl
theorem kCt3_pl {as : List D} (h3 : ds.length + es.length ≤ 16777216) : kCt3 (.p (.lst as)) (.lst us) e ds es = some (.lst ((ds ++ es).map T.p), e) := if_pos ⟨id rfl, id rfl, h3⟩
theorem kCt3_ll {ws : List T} (h3 : ds.length + es.length ≤ 16777216) : kCt3 (.lst ws) (.lst us) e ds es = some (.lst ((ds ++ es).map T.p), e) := if_pos ⟨id rfl, id rfl, h3⟩
theorem kCt3_lp {as : List D} (h3 : ds.length + es.length ≤ 16777216) : kCt3 (.lst us) (.p (.lst as)) e ds es = some (.lst ((ds ++ es).map T.p), e) := if_pos ⟨id rfl, id rfl, h3⟩
theorem kCt3_pp {as bs : List D} (h3 : ds.length + es.length ≤ 16777216) : kCt3 (.p (.lst as)) (.p (.lst bs)) e ds es = some (.lst ((ds ++ es).map T.p), e) := if_pos ⟨id rfl, id rfl, h3⟩
theorem itemsT_p : itemsT (.p (.lst ds)) = some ds := id rfl
theorem itemsT_t : itemsT (.p (.tup ds)) = some ds := id rfl
theorem itemsT_ll : itemsT (.lst ts) = allP ts := id rfl
theorem isLT_p : isLT (.p (.lst ds)) = true := id rfl
theorem isLT_l : isLT (.lst ts) = true := id rfl
variable {kd : List (Key × D)} {ky : Key} {st : Str}
theorem eDn_q : eDn env = some (.dic (pairsT []), env) := id rfl
def kDx4 (ds : List (Key × D)) (e : Env) (k : Key) : Option (T × Env) := (valD ds k).map (kP e)
def kDx3 (u : T) (e : Env) (ds : List (Key × D)) : Option (T × Env) := (keyT u).bind (kDx4 ds e)
def kDx2 (t : T) (s : T × Env) : Option (T × Env) := (dicT t).bind (kDx3 s.1 s.2)
def kDx1 (fi : EF) (r : T × Env) : Option (T × Env) := (fi r.2).bind (kDx2 r.1)
theorem eDix_q : eDix fa fb env = (fa env).bind (kDx1 fb) := id rfl
theorem kDx1_q : kDx1 fb (t, e) = (fb e).bind (kDx2 t) := id rfl
theorem kDx2_q : kDx2 t (u, e) = (dicT t).bind (kDx3 u e) := id rfl
theorem kDx3_q : kDx3 u e kd = (keyT u).bind (kDx4 kd e) := id rfl
theorem kDx4_q : kDx4 kd e ky = (valD kd ky).map (kP e) := id rfl
def kDg5 (u : T) (e : Env) (ds : List (Key × D)) (k : Key) : Option (T × Env) := match u with
  | .p z => some (.p ((valD ds k).getD z), e)
  | _ => none
def kDg4 (s u : T) (e : Env) (ds : List (Key × D)) : Option (T × Env) := (keyT s).bind (kDg5 u e ds)
def kDg3 (t s : T) (u : T × Env) : Option (T × Env) := (dicT t).bind (kDg4 s u.1 u.2)
def kDg2 (t : T) (fx : EF) (s : T × Env) : Option (T × Env) := (fx s.2).bind (kDg3 t s.1)
def kDg1 (fi fx : EF) (r : T × Env) : Option (T × Env) := (fi r.2).bind (kDg2 r.1 fx)
theorem eDget_q : eDget fa fb fc env = (fa env).bind (kDg1 fb fc) := id rfl
theorem kDg1_q : kDg1 fb fc (t, e) = (fb e).bind (kDg2 t fc) := id rfl
theorem kDg2_q : kDg2 t fc (u, e) = (fc e).bind (kDg3 t u) := id rfl
theorem kDg3_q {x : T} : kDg3 t u (x, e) = (dicT t).bind (kDg4 u x e) := id rfl
theorem kDg4_q {x : T} : kDg4 u x e kd = (keyT u).bind (kDg5 x e kd) := id rfl
theorem kDg5_q : kDg5 (.p d) e kd ky = some (.p ((valD kd ky).getD d), e) := id rfl
def kDi4 (b : Bool) (e : Env) (ds : List (Key × D)) (k : Key) : Option (T × Env) := some (.p (.bl (if b then (valD ds k).isSome else !(valD ds k).isSome)), e)
def kDi3 (b : Bool) (s : T) (e : Env) (ds : List (Key × D)) : Option (T × Env) := (keyT s).bind (kDi4 b e ds)
def kDi2 (b : Bool) (s : T) (r : T × Env) : Option (T × Env) := (dicT r.1).bind (kDi3 b s r.2)
def kDi1 (b : Bool) (fo : EF) (s : T × Env) : Option (T × Env) := (fo s.2).bind (kDi2 b s.1)
theorem eDin_q {b : Bool} : eDin b fa fb env = (fa env).bind (kDi1 b fb) := id rfl
theorem kDi1_q {b : Bool} : kDi1 b fb (t, e) = (fb e).bind (kDi2 b t) := id rfl
theorem kDi2_q {b : Bool} : kDi2 b t (u, e) = (dicT u).bind (kDi3 b t e) := id rfl
theorem kDi3_q {b : Bool} : kDi3 b t e kd = (keyT t).bind (kDi4 b e kd) := id rfl
theorem kDi4_t : kDi4 true e kd ky = some (.p (.bl (valD kd ky).isSome), e) := id rfl
theorem kDi4_f : kDi4 false e kd ky = some (.p (.bl (!(valD kd ky).isSome)), e) := id rfl
def kPd5 (i : Nat) (t : T) (e : Env) (k : Key) (kvs : List (Key × D)) : Option (Fl × Env) := match t with
  | .p d => if kvs.length < 16000000 then some (.nx, e.set i (some (.dic (pairsT (putD kvs k d))))) else none
  | _ => none
def kPd4 (i : Nat) (t : T) (e : Env) (k : Key) : Option (Fl × Env) := (atD e i).bind (kPd5 i t e k)
def kPd3 (i : Nat) (t : T) (s : T × Env) : Option (Fl × Env) := (keyT s.1).bind (kPd4 i t s.2)
def kPd2 (i : Nat) (fk : EF) (t : T) (e : Env) (_ : List (Key × D)) : Option (Fl × Env) := (fk e).bind (kPd3 i t)
def kPd1 (i : Nat) (fk : EF) (r : T × Env) : Option (Fl × Env) := (atD r.2 i).bind (kPd2 i fk r.1 r.2)
theorem sPutD_q : sPutD i fa f env = (f env).bind (kPd1 i fa) := id rfl
theorem kPd1_q : kPd1 i fa (t, e) = (atD e i).bind (kPd2 i fa t e) := id rfl
theorem kPd2_q : kPd2 i fa t e kd = (fa e).bind (kPd3 i t) := id rfl
theorem kPd3_q : kPd3 i t (u, e) = (keyT u).bind (kPd4 i t e) := id rfl
theorem kPd4_q : kPd4 i t e ky = (atD e i).bind (kPd5 i t e ky) := id rfl
theorem kPd5_q : kPd5 i (.p d) e ky kd = if kd.length < 16000000 then some (.nx, e.set i (some (.dic (pairsT (putD kd ky d))))) else none := id rfl
def kAtD : Option (Option T) → Option (List (Key × D))
  | some (some (.dic kvs)) => frzK kvs
  | _ => none
theorem atD_q : atD env i = kAtD env[i]? := id rfl
theorem kAtD_q : kAtD (some (some (.dic (pairsT kd)))) = some kd := frzK_pairs kd
theorem dicT_p : dicT (.p (.dic kd)) = some kd := id rfl
theorem dicT_o : dicT (.dic (pairsT kd)) = some kd := frzK_pairs kd
theorem keyT_i : keyT (.p (.int z)) = some (.inl z) := id rfl
theorem keyT_s : keyT (.p (.str st)) = some (.inr st) := id rfl
theorem toD_d : ∀ kd : List (Key × D), (T.dic (pairsT kd)).toD = .dic kd := fun kd => by
  have h : ∀ kd : List (Key × D), T.toKs (pairsT kd) = kd := fun kd => by
    induction kd with
    | nil => rfl
    | cons x r ih => obtain ⟨k, d⟩ := x; show (k, (T.p d).toD) :: T.toKs (pairsT r) = _; rw [ih]; rfl
  show D.dic (T.toKs (pairsT kd)) = _
  rw [h]
theorem kV_d : kV env i (some (some (.dic (pairsT kd)))) = some (.p (.dic kd), env.set i (some (.p (.dic kd)))) := by
  show some (T.p (T.dic (pairsT kd)).toD, env.set i (some (.p (T.dic (pairsT kd)).toD))) = _
  rw [toD_d]
def kForM (G : GF) (body : SF) (r : T × Env) : Option (Fl × Env) := match r.1 with
  | .lst us => loopT G body us r.2
  | _ => none
theorem sForM_q : sForM f G F env = (f env).bind (kForM G F) := id rfl
theorem kForM_q : kForM G F (.lst ts, e) = loopT G F ts e := id rfl
def kLt2 (G : GF) (body : SF) (ts : List T) (r : Fl × Env) : Option (Fl × Env) := match r.1 with
  | .nx => loopT G body ts r.2
  | .ct => loopT G body ts r.2
  | .bk => some (.nx, r.2)
  | .rt t => some (.rt t, r.2)
def kLt1 (G : GF) (body : SF) (ts : List T) (e : Env) : Option (Fl × Env) := (body e).bind (kLt2 G body ts)
theorem loopT_n : loopT G F [] env = some (.nx, env) := id rfl
theorem loopT_c : loopT G F (t :: ts) env = (G t env).bind (kLt1 G F ts) := id rfl
theorem kLt1_q : kLt1 G F ts e = (F e).bind (kLt2 G F ts) := id rfl
theorem kLt2_n : kLt2 G F ts (.nx, e) = loopT G F ts e := id rfl
theorem kLt2_r : kLt2 G F ts (.rt t, e) = some (.rt t, e) := id rfl
def kM0 (g : Str → Option D) (x : T × Env) : Option (T × Env) := match x.1 with
  | .p (.str a) => (g a).map (kP x.2)
  | _ => none
theorem eM0_q {g : Str → Option D} : eM0 g f env = (f env).bind (kM0 g) := id rfl
theorem kM0_q {g : Str → Option D} : kM0 g (.p (.str st), e) = (g st).map (kP e) := id rfl
def kR3 (r : List T × Env) : Option (List D × Env) := match r.1 with
  | [.p (.int i), .p (.int j), .p (.int c)] => if c ≠ 0 ∧ c.natAbs < 1073741824 ∧ Builtin.Range.small i j c = true ∧ Builtin.Range.rangeSize i j c = ((Builtin.Range.rangeSize i j c).toNat : Int) then some (rng3D i c (Builtin.Range.rangeSize i j c).toNat, r.2) else none
  | _ => none
theorem iR3_q : iR3 r env = (r env).bind kR3 := id rfl
def kRun (r : Fl × Env) : Option T := match r.1 with
  | .rt t => some t
  | .nx => some (.p .non)
  | _ => none
theorem runF_q : runF n k F ds = if ds.length = k then (F (startE n ds)).bind kRun else none := id rfl
theorem kRun_r : kRun (.rt t, e) = some t := id rfl
theorem kRun_n : kRun (.nx, e) = some (.p .non) := id rfl
end DL
set_option Elab.async false
set_option linter.all false
set_option maxRecDepth 100000
namespace DL
open PySem PySem.Spec PyProof.Rows L2
abbrev sg (l : List Nat) : Str := ⟨l.toArray⟩
theorem sg_len (l : List Nat) : (sg l).length = l.length := by rw [TL.len_tl]
theorem sg_app (a b : List Nat) : sg a ++ sg b = sg (a ++ b) := TL.ext_tl (TL.tl_append (sg a) (sg b))
theorem sg_inj {a b : List Nat} : sg a = sg b ↔ a = b := ⟨fun h => congrArg TL.tl h, fun h => by rw [h]⟩
theorem sg_eta (s : Str) : sg s.cps.toList = s := TL.ext_tl rfl
def cod (s : String) : List Nat := s.toList.map Char.toNat
theorem ofS (s : String) : PySem.Str.ofString s = sg (cod s) := TL.ext_tl (TL.tl_ofString s)
theorem sg_ok (l : List Nat) : PyData.strOk (sg l) = l.all (fun c => decide (c < 1114112)) := by
  show (l.toArray).all _ = _
  rw [List.all_toArray]
theorem gAdd_g {a b : List Nat} (h : a.length + b.length ≤ 16777216) : gAdd (.str (sg a)) (.str (sg b)) = some (.str (sg (a ++ b))) := by
  rw [gAdd_s (by rw [sg_len, sg_len]; exact h), sg_app]
theorem ixT_sg {l : List Nat} {i : Int} (h : l.length ≤ 16777216) : ixT (.p (.str (sg l))) i = (atI l i).map fun c => .p (.str (sg [c])) := if_pos (by rw [sg_len]; exact h)
theorem eqQ_g {a b : List Nat} : eqQ (.str (sg a)) (.str (sg b)) = some (decide (a = b)) := by
  rw [eqQ_s]
  congr 1
  rw [Bool.eq_iff_iff]; simp [sg_inj]
theorem neQ_g {a b : List Nat} : neQ (.str (sg a)) (.str (sg b)) = some (!decide (a = b)) := by unfold neQ; rw [eqQ_g]; rfl
theorem repS_g (a : List Nat) (n : Int) : repS (sg a) n = sg (List.replicate n.toNat a).flatten := rfl
theorem gMulA_g {a : List Nat} {n : Int} (h1 : -1000000000 < n) (h2 : n < 1000000000) (h : a.length * n.toNat ≤ 16777216) : gMulA (.str (sg a)) (.int n) = some (.str (sg (List.replicate n.toNat a).flatten)) := by
  show (if _ then _ else none) = _
  rw [if_pos ⟨h1, h2, by rw [sg_len]; exact h⟩, repS_g]
theorem inQ_g (c : Nat) (l : List Nat) : inQ (.str (sg [c])) (.str (sg l)) = some (decide (c ∈ l)) := rfl
theorem signsD_g (l : List Nat) : signsD (sg l) = l.map fun c => .str (sg [c]) := rfl
theorem join_g (s : List Nat) (ls : List (List Nat)) : Txt.join (sg s) (ls.map sg) = sg (TL.joinL s ls) := by
  rw [TL.join_eq]
  apply TL.ext_tl
  rw [TL.tl_join, List.map_map]
  show TL.joinL s (ls.map fun l => l) = TL.joinL s ls
  rw [List.map_id']
def dg (i : Int) : List Nat := cod (toString i)
theorem toS (i : Int) : ((toString i : String) : Str) = sg (dg i) := ofS _
theorem gStr_i {i : Int} (h1 : -1606938044258990275541962092341162602522202993782792835301376 < i) (h2 : i < 1606938044258990275541962092341162602522202993782792835301376) : gStr (.p (.int i)) = some (.str (sg (dg i))) := by
  show (if _ then some (D.str (toString i)) else none) = _
  rw [if_pos (by omega), toS]
theorem gStr_s {s : Str} : gStr (.p (.str s)) = some (.str s) := rfl
theorem cod_ok (s : String) : ∀ c ∈ cod s, c < 1114112 := by
  intro c h
  obtain ⟨x, _, rfl⟩ := List.mem_map.mp h
  have hv : x.val.isValidChar := x.valid
  have h0 : x.toNat = x.val.toNat := rfl
  rw [h0]
  rcases hv with h | h <;> (have := h; simp only [UInt32.toNat] at *; omega)
mutual
def dOk : Nat → D → Bool
  | _, .non => true
  | _, .bl _ => true
  | _, .int _ => true
  | _, .str s => PyData.strOk s
  | 0, .lst _ => false
  | n + 1, .lst ds => dOks n ds
  | 0, .tup _ => false
  | n + 1, .tup ds => dOks n ds
  | _, .dic _ => false
  | _, .dit _ => false
  | _, .obj _ _ => false
  | _, .al _ => false
def dOks : Nat → List D → Bool
  | _, [] => true
  | n, d :: ds => dOk n d && dOks n ds
end
mutual
theorem dOk_py : ∀ (n : Nat) (d : D), dOk n d = true → ∃ p, toPy d = some p ∧ p.canLay0 = true ∧ p.depth ≤ n ∧ PyData.eqv p p = true
  | _, .non, _ => ⟨.none, rfl, rfl, Nat.zero_le _, rfl⟩
  | _, .bl b, _ => ⟨.bool b, rfl, rfl, Nat.zero_le _, by simp [PyData.eqv]⟩
  | _, .int b, _ => ⟨.int b, rfl, rfl, Nat.zero_le _, by simp [PyData.eqv]⟩
  | _, .str b, h => ⟨.str b, rfl, by unfold dOk at h; exact h, Nat.zero_le _, by simp [PyData.eqv]⟩
  | 0, .lst _, h => by unfold dOk at h; cases h
  | n + 1, .lst ds, h => by
    unfold dOk at h
    obtain ⟨ps, h1, h2, h3, h4⟩ := dOks_py n ds h
    refine ⟨.list ps, by show (toPys ds).map _ = _; rw [h1]; rfl, h2, ?_, by rw [PyData.eqv]; exact h4⟩
    show PyData.depthAll ps + 1 ≤ n + 1
    omega
  | 0, .tup _, h => by unfold dOk at h; cases h
  | n + 1, .tup ds, h => by
    unfold dOk at h
    obtain ⟨ps, h1, h2, h3, h4⟩ := dOks_py n ds h
    refine ⟨.tuple ps, by show (toPys ds).map _ = _; rw [h1]; rfl, h2, ?_, by rw [PyData.eqv]; exact h4⟩
    show PyData.depthAll ps + 1 ≤ n + 1
    omega
  | _, .dic _, h => by unfold dOk at h; cases h
  | _, .dit _, h => by unfold dOk at h; cases h
  | _, .obj _ _, h => by unfold dOk at h; cases h
  | _, .al _, h => by unfold dOk at h; cases h
theorem dOks_py : ∀ (n : Nat) (ds : List D), dOks n ds = true → ∃ ps, toPys ds = some ps ∧ PyData.canLayAll0 ps = true ∧ PyData.depthAll ps ≤ n ∧ PyData.eqvAll ps ps = true
  | _, [], _ => ⟨[], rfl, rfl, Nat.zero_le _, rfl⟩
  | n, d :: ds, h => by
    unfold dOks at h
    rw [Bool.and_eq_true] at h
    obtain ⟨p, h1, h2, h3, h4⟩ := dOk_py n d h.1
    obtain ⟨ps, k1, k2, k3, k4⟩ := dOks_py n ds h.2
    refine ⟨p :: ps, by show (toPy d).bind _ = _; rw [h1]; show (toPys ds).map _ = _; rw [k1]; rfl, ?_, ?_, ?_⟩
    · show (p.canLay0 && PyData.canLayAll0 ps) = true
      rw [h2, k2]; rfl
    · show max p.depth (PyData.depthAll ps) ≤ n
      omega
    · show (PyData.eqv p p && PyData.eqvAll ps ps) = true
      rw [h4, k4]; rfl
end
theorem eqQ_refl {d : D} (n : Nat) (hn : n ≤ 64) (h : dOk n d = true) : eqQ d d = some true := by
  have deep : eqDeep d d = some true := by
    obtain ⟨p, h1, h2, h3, h4⟩ := dOk_py n d h
    unfold eqDeep
    rw [h1]
    show (if (SeqAt.shaped p && SeqAt.shaped p) = true then some (PyData.eqv p p) else none) = some true
    have hs : SeqAt.shaped p = true := by
      unfold SeqAt.shaped
      rw [h2, decide_eq_true (by omega)]; rfl
    rw [hs, h4]; rfl
  cases d with
  | int i => rw [eqQ_i]; simp
  | str i => rw [eqQ_s]; simp
  | bl i => rw [eqQ_b]; simp
  | non => rfl
  | lst ds => exact deep
  | tup ds => exact deep
  | dic ds => exact deep
  | dit ds => exact deep
  | obj _ ds => exact deep
  | al _ => exact deep
theorem dOks_all {n : Nat} : ∀ {ds : List D}, (∀ d ∈ ds, dOk n d = true) → dOks n ds = true
  | [], _ => by unfold dOks; rfl
  | d :: ds, h => by unfold dOks; rw [h d (by simp), dOks_all fun x hx => h x (by simp [hx])]; rfl
theorem dOk_lst {n : Nat} {ds : List D} (h : ∀ d ∈ ds, dOk n d = true) : dOk (n + 1) (.lst ds) = true := by unfold dOk; exact dOks_all h
theorem dOk_tup {n : Nat} {ds : List D} (h : ∀ d ∈ ds, dOk n d = true) : dOk (n + 1) (.tup ds) = true := by unfold dOk; exact dOks_all h
theorem dOk_int {n : Nat} {i : Int} : dOk n (.int i) = true := by unfold dOk; rfl
theorem dOk_sg {n : Nat} {l : List Nat} (h : ∀ c ∈ l, c < 1114112) : dOk n (.str (sg l)) = true := by
  unfold dOk
  rw [sg_ok, List.all_eq_true]
  exact fun c hc => decide_eq_true (h c hc)
theorem atI_in {α : Type} {xs : List α} {i : Int} (h0 : 0 ≤ i) (h1 : i < xs.length) : ∃ x, x ∈ xs ∧ atI xs i = some x ∧ xs[i.toNat]? = some x := by
  have hlt : i.toNat < xs.length := by omega
  refine ⟨xs[i.toNat], List.getElem_mem hlt, ?_, List.getElem?_eq_getElem hlt⟩
  have := atI_nat (xs := xs) (j := i.toNat) (List.getElem?_eq_getElem hlt)
  rwa [show ((i.toNat : Nat) : Int) = i by omega] at this
theorem toVs_strs : ∀ ss : List Str, toVs (ss.map D.str) = some (ss.map V.str)
  | [] => rfl
  | s :: ss => by
    show (toV (.str s)).bind (fun v => (toVs (ss.map D.str)).map (v :: ·)) = _
    rw [toVs_strs ss]; rfl
theorem inV_strs (s : Str) (ss : List Str) : inV (.str s) (ss.map V.str) = decide (s ∈ ss) := by
  unfold inV
  rw [Bool.eq_iff_iff]
  simp only [List.any_map, List.any_eq_true, Function.comp_apply, decide_eq_true_eq]
  constructor
  · rintro ⟨x, h1, h2⟩
    have : (x == s) = true := h2
    rw [← eq_of_beq this]; exact h1
  · intro h
    exact ⟨s, h, show (s == s) = true from beq_self_eq_true s⟩
theorem flat_strs (ss : List Str) : (ss.map V.str).all flatV = true := by
  rw [List.all_eq_true]
  intro x hx
  obtain ⟨y, _, rfl⟩ := List.mem_map.mp hx
  rfl
theorem inQ_strs (s : Str) (ss : List Str) : inQ (.str s) (.lst (ss.map D.str)) = some (decide (s ∈ ss)) := by
  show inFlat (.str s) (ss.map D.str) = _
  unfold inFlat
  rw [toVs_strs]
  show (if (flatV (.str s) && (ss.map V.str).all flatV) = true then some (inV (.str s) (ss.map V.str)) else none) = _
  rw [flat_strs, inV_strs]; rfl
theorem ifLe {α : Type} {n m : Nat} {a b : α} (h : n ≤ m) : (if n ≤ m then a else b) = a := if_pos h
theorem ifLt {α : Type} {n m : Nat} {a b : α} (h : n < m) : (if n < m then a else b) = a := if_pos h
theorem rng_len (lo : Int) (n : Nat) : (rngD lo n).length = n := by simp [rngD]
theorem sIx_i {n d : Nat} {k : Int} (h : 0 ≤ k) : HT.sIx n d (some k) = min k.toNat n := by
  show (if k < 0 then (k + (n : Int)).toNat else min k.toNat n) = _
  rw [if_neg (by omega)]
theorem notInQ_g (c : Nat) (l : List Nat) : notInQ (.str (sg [c])) (.str (sg l)) = some (!decide (c ∈ l)) := rfl
theorem gLen_g {l : List Nat} (h : l.length ≤ 16777216) : gLen (.p (.str (sg l))) = some (.int (l.length : Int)) := by
  show ((if (sg l).length ≤ 16777216 then some (((sg l).length : Nat) : Int) else none)).map D.int = _
  rw [sg_len, if_pos h]; rfl
abbrev chr1 (c : Nat) : D := .str (sg [c])
theorem valD_cons (k j : Key) (d : D) (r : List (Key × D)) : valD ((j, d) :: r) k = if j = k then some d else valD r k := by
  by_cases c : j = k
  · rw [if_pos c]; simp [valD, List.find?_cons, c]
  · rw [if_neg c]; simp [valD, List.find?_cons, c]
end DL
set_option Elab.async false
set_option linter.all false
set_option maxRecDepth 100000
namespace DL
open PySem PySem.Spec PyProof.Rows L2
section
variable {G : GF} {F : SF} {d : D} {ds : List D} {env e2 : DL.Env} {r : Option (Fl × DL.Env)} {own : List Nat} {c : CF} {el : EF}
end
def cutA {α : Type} (xs : List α) (lo hi : Option Int) : List α := (xs.drop (HT.sIx xs.length 0 lo)).take (HT.sIx xs.length xs.length hi - HT.sIx xs.length 0 lo)
theorem cutD_map {α : Type} (dd : α → D) (xs : List α) (lo hi : Option Int) : cutD (xs.map dd) lo hi = (cutA xs lo hi).map dd := by
  unfold cutD cutA
  rw [List.length_map, ← List.map_drop, ← List.map_take]
theorem cutA_mem {α : Type} {xs : List α} {lo hi : Option Int} {x : α} (h : x ∈ cutA xs lo hi) : x ∈ xs := List.mem_of_mem_drop (List.mem_of_mem_take h)
theorem cutA_len {α : Type} (xs : List α) (lo hi : Option Int) : (cutA xs lo hi).length ≤ xs.length := by
  unfold cutA
  rw [List.length_take, List.length_drop]; omega
theorem toDs_map2 {α : Type} (f : α → T) (g : α → D) (xs : List α) (h : ∀ x ∈ xs, (f x).toD = g x) : T.toDs (xs.map f) = xs.map g := by
  rw [toDs_map, List.map_map]
  exact List.map_congr_left h
end DL
set_option Elab.async false
set_option linter.all false
set_option maxRecDepth 100000
set_option maxHeartbeats 2000000
namespace ZG
open PySem PySem.Spec PyProof.Rows L2
open PySem.Sem (wp)
def Gv (P : Program) (w : World) (i : Addr) (S S' : Heap → Prop) (V : Value → Prop) : Prop := ∀ (A : Around) (E : Value → Shared → Prop) (s : Shared) (Q : Value → Shared → Prop), S s.heap →
  (∀ v h' tk, V v → S' h' → Heap.SameBut i s.heap h' → Q v { s with heap := h', toks := tk }) → wpAny (model P w) A (Builtin.SmallTypes.nextOf (.ref i)) Q E s
def Gn (P : Program) (w : World) (i : Addr) (S : Heap → Prop) : Prop := ∀ (A : Around) (E : Value → Shared → Prop) (s : Shared) (Q : Value → Shared → Prop), A.handled = none → S s.heap →
  (∀ h' e, Heap.ExtBut i s.heap h' → (∃ o, h'.get? e = some o ∧ o.cls = .type "StopIteration") → E (.ref e) { s with heap := h' }) → wpAny (model P w) A (Builtin.SmallTypes.nextOf (.ref i)) Q E s
def Lk (dep : List Addr) (S : Heap → Prop) : Prop := ∀ h h' : Heap, (∀ c ∈ dep, ∀ o, h.get? c = some o → h'.get? c = some o) → S h → S h'
structure Far (z TI TO i1 i2 : Addr) (d1 d2 : List Addr) : Prop where
  TIz : TI ≠ z
  TOz : TO ≠ z
  i1z : i1 ≠ z
  i2z : i2 ≠ z
  TITO : TI ≠ TO
  TIi1 : TI ≠ i1
  TIi2 : TI ≠ i2
  TOi1 : TO ≠ i1
  TOi2 : TO ≠ i2
  d1z : ∀ c ∈ d1, c ≠ z
  d1TO : ∀ c ∈ d1, c ≠ TO
  d1i2 : ∀ c ∈ d1, c ≠ i2
  d2z : ∀ c ∈ d2, c ≠ z
  d2TO : ∀ c ∈ d2, c ≠ TO
  d2i1 : ∀ c ∈ d2, c ≠ i1
section
variable {P : Program} {w : World} {A : Around} {E : Value → Shared → Prop} {s : Shared} {z TI TO i1 i2 : Addr} {d1 d2 : List Addr} {S1 S1' S2 S2' : Heap → Prop} {V1 V2 : Value → Prop} {a b : Value}
end
def ItZ (K : PySem.W.Frag) (x : Str) (b : Addr) : It :=
  ⟨fun i H => i < x.cps.size ∧ ∃ (ys : List V) (y : V), SqL K H b ys ∧ ys[i]? = some y,
    fun i H v H' => ∃ (tt : Addr) (c : Nat) (y : V), v = .ref tt ∧ H tt = none ∧ H' = upd H tt (.tup [.str ⟨#[c]⟩, y]) ∧ x.cps[i]? = some c ∧ ∀ ys, SqL K H b ys → ys[i]? = some y,
    fun i H => (∃ ys : List V, SqL K H b ys) ∧ (x.cps.size ≤ i ∨ ∃ ys : List V, SqL K H b ys ∧ ys.length ≤ i)⟩
def chainZ (n : Nat) : List Addr := [n + 4, n + 2, n + 3, n, n + 1]
structure StZ (x : Str) (t : Tok) (b : Addr) (n k : Nat) (h : Heap) : Prop where
  zp : IsZip h (n + 4) (n + 2) (n + 3) .none
  pI : IsPair h (n + 2) (.ref n) (.ref (n + 1))
  pO : ∃ u v, IsPair h (n + 3) u v
  si : h.IsStrIter n "str_ascii_iterator" x t k
  li : h.IsListIter (n + 1) b k
theorem StZ.there {x : Str} {t : Tok} {b : Addr} {n k : Nat} {h : Heap} (S : StZ x t b n k h) : ∀ c ∈ chainZ n, ∃ o, h.get? c = some o ∧ ∀ v, o.data ≠ .cell v := fun c hc => by
  obtain ⟨u, v, pO⟩ := S.pO
  obtain ⟨o1, g1, _, d1⟩ := S.si
  obtain ⟨o2, g2, _, d2⟩ := S.li
  simp only [chainZ, List.mem_cons, List.not_mem_nil, or_false] at hc
  rcases hc with rfl | rfl | rfl | rfl | rfl
  · exact ⟨_, S.zp, fun _ q => nomatch q⟩
  · exact ⟨_, S.pI, fun _ q => nomatch q⟩
  · exact ⟨_, pO, fun _ q => nomatch q⟩
  · exact ⟨o1, g1, fun _ q => by rw [d1] at q; cases q⟩
  · exact ⟨o2, g2, fun _ q => by rw [d2] at q; cases q⟩
abbrev hz1 (h : Heap) (x : Str) (t : Tok) : Heap := h.push { cls := .type "str_ascii_iterator", data := .fields #[.str x t, .int 0 0] }
abbrev hz2 (h : Heap) (x : Str) (t : Tok) (b : Addr) : Heap := (hz1 h x t).push { cls := .type "list_iterator", data := .fields #[.ref b, .int 0 0] }
abbrev hz3 (h : Heap) (x : Str) (t : Tok) (b : Addr) : Heap := (hz2 h x t b).push { cls := .type "tuple", data := .seq #[.ref h.objs.size, .ref (hz1 h x t).objs.size] }
abbrev hz4 (h : Heap) (x : Str) (t : Tok) (b : Addr) : Heap := (hz3 h x t b).push { cls := .type "tuple", data := .seq #[.none, .none] }
abbrev hz5 (h : Heap) (x : Str) (t : Tok) (b : Addr) : Heap := (hz4 h x t b).push { cls := .type "zip", data := .fields #[.none, .bool false, .bool false, .ref (hz2 h x t b).objs.size, .ref (hz3 h x t b).objs.size] }
def iZipS (K : PySem.W.Frag) (ta : TA) : TI := fun σ H R => ta σ H fun vs H1 => ∃ x b ys, vs = [.str x, .ref b] ∧ x.cps.all (· < 128) = true ∧ SqL K H1 b ys ∧ R (ItZ K x b) H1
end ZG
namespace DL
open PySem PySem.Spec PyProof.Rows L2
variable {K : PySem.W.Frag} {G1 : Hp}
def zsD : List Nat → List D → List D
  | c :: cs, d :: ds => .tup [.str ⟨#[c]⟩, d] :: zsD cs ds
  | _, _ => []
def iZpS (f : AF) : IF := fun env => (f env).bind fun r => match r.1 with
  | [.p (.str s), .p (.lst ds)] => if s.cps.toList.all (fun c => decide (c < 128)) = true then some (zsD s.cps.toList ds, r.2) else none
  | _ => none
def kZpS (r : List T × Env) : Option (List D × Env) := match r.1 with
  | [.p (.str s), .p (.lst ds)] => if s.cps.toList.all (fun c => decide (c < 128)) = true then some (zsD s.cps.toList ds, r.2) else none
  | _ => none
end DL
set_option Elab.async false
set_option linter.all false
set_option maxRecDepth 100000
set_option maxHeartbeats 1000000
namespace DL
open PySem PySem.Spec PyProof.Rows L2
inductive Stp where
  | key (k : Key) | tky (k : List Key) | ix (n : Nat) | it (n : Nat) | fld (f : Str)
def unb : T → T
  | .box _ t => t
  | t => t
def reb : T → T → T
  | .box a _, u => .box a u
  | _, u => u
def valT {κ : Type} [DecidableEq κ] : List (κ × T) → κ → Option T
  | [], _ => none
  | (j, t) :: r, k => if j = k then some t else valT r k
def setT {κ : Type} [DecidableEq κ] : List (κ × T) → κ → T → List (κ × T)
  | [], _, _ => []
  | (j, t) :: r, k, u => if j = k then (j, u) :: r else (j, t) :: setT r k u
def stepT : Stp → T → Option T
  | .key k, .dic kvs => valT kvs k
  | .tky k, .dit kvs => valT kvs k
  | .ix n, .lst ts => ts[n]?
  | .it n, .tup ts => ts[n]?
  | .fld f, .obj _ fs => valT fs f
  | _, _ => none
def setS : Stp → T → T → T
  | .key k, .dic kvs, u => .dic (setT kvs k u)
  | .tky k, .dit kvs, u => .dit (setT kvs k u)
  | .ix n, .lst ts, u => .lst (ts.set n u)
  | .it n, .tup ts, u => .tup (ts.set n u)
  | .fld f, .obj n fs, u => .obj n (setT fs f u)
  | _, t, _ => t
def getP : List Stp → T → Option T
  | [], t => some t
  | s :: P, t => (stepT s (unb t)).bind (getP P)
def setP : List Stp → T → T → T
  | [], _, u => u
  | s :: P, t, u => match stepT s (unb t) with
    | some c => reb t (setS s (unb t) (setP P c u))
    | none => t
def ChS (H : Hp) : Stp → V → V → Prop
  | .key k, v, w => ∃ a ws, v = .ref a ∧ H a = some (.dK ws) ∧ valV ws k = some w
  | .tky k, v, w => ∃ a ws, v = .ref a ∧ H a = some (.dT ws) ∧ valV ws k = some w
  | .ix n, v, w => ∃ a xs, v = .ref a ∧ H a = some (.lst xs) ∧ xs[n]? = some w
  | .it n, v, w => ∃ a xs, v = .ref a ∧ H a = some (.tup xs) ∧ xs[n]? = some w
  | .fld f, v, w => ∃ a C dx fs, v = .ref a ∧ H a = some (.ins C dx fs) ∧ fs.lookup f = some w
def Ch (H : Hp) : List Stp → V → V → Prop
  | [], v, w => w = v
  | s :: P, v, w => ∃ u, ChS H s v u ∧ Ch H P u w
theorem ChS.det {H : Hp} {s : Stp} {v w w' : V} (h : ChS H s v w) (h' : ChS H s v w') : w = w' := by
  cases s with
  | key k =>
    obtain ⟨a, ws, rfl, h2, h3⟩ := h
    obtain ⟨a', ws', e, h2', h3'⟩ := h'
    cases e
    rw [h2] at h2'; cases h2'
    rw [h3] at h3'; exact Option.some.inj h3'
  | tky k =>
    obtain ⟨a, ws, rfl, h2, h3⟩ := h
    obtain ⟨a', ws', e, h2', h3'⟩ := h'
    cases e
    rw [h2] at h2'; cases h2'
    rw [h3] at h3'; exact Option.some.inj h3'
  | ix n =>
    obtain ⟨a, ws, rfl, h2, h3⟩ := h
    obtain ⟨a', ws', e, h2', h3'⟩ := h'
    cases e
    rw [h2] at h2'; cases h2'
    rw [h3] at h3'; exact Option.some.inj h3'
  | it n =>
    obtain ⟨a, ws, rfl, h2, h3⟩ := h
    obtain ⟨a', ws', e, h2', h3'⟩ := h'
    cases e
    rw [h2] at h2'; cases h2'
    rw [h3] at h3'; exact Option.some.inj h3'
  | fld f =>
    obtain ⟨a, C, dx, ws, rfl, h2, h3⟩ := h
    obtain ⟨a', C', dx', ws', e, h2', h3'⟩ := h'
    cases e
    rw [h2] at h2'; cases h2'
    rw [h3] at h3'; exact Option.some.inj h3'
theorem Ch.det {H : Hp} : ∀ {P : List Stp} {v w w' : V}, Ch H P v w → Ch H P v w' → w = w'
  | [], _, _, _, h, h' => h.trans h'.symm
  | s :: P, _, _, _, ⟨u, h1, h2⟩, ⟨u', h1', h2'⟩ => by
    have := h1.det h1'
    subst this
    exact Ch.det h2 h2'
theorem ChS.same {H H' : Hp} (e : Same H H') {s : Stp} {v w : V} (h : ChS H s v w) : ChS H' s v w := by
  cases s with
  | key k => obtain ⟨a, ws, h1, h2, h3⟩ := h; exact ⟨a, ws, h1, e _ _ h2, h3⟩
  | tky k => obtain ⟨a, ws, h1, h2, h3⟩ := h; exact ⟨a, ws, h1, e _ _ h2, h3⟩
  | ix k => obtain ⟨a, ws, h1, h2, h3⟩ := h; exact ⟨a, ws, h1, e _ _ h2, h3⟩
  | it k => obtain ⟨a, ws, h1, h2, h3⟩ := h; exact ⟨a, ws, h1, e _ _ h2, h3⟩
  | fld k => obtain ⟨a, C, dx, ws, h1, h2, h3⟩ := h; exact ⟨a, C, dx, ws, h1, e _ _ h2, h3⟩
theorem Ch.same {H H' : Hp} (e : Same H H') : ∀ {P : List Stp} {v w : V}, Ch H P v w → Ch H' P v w
  | [], _, _, h => h
  | s :: P, _, _, ⟨u, h1, h2⟩ => ⟨u, h1.same e, Ch.same e h2⟩
theorem Ch.app {H : Hp} : ∀ {P : List Stp} {v w x : V} {s : Stp}, Ch H P v w → ChS H s w x → Ch H (P ++ [s]) v x
  | [], _, _, _, _, h, h' => by rw [show _ = _ from h] at h'; exact ⟨_, h', rfl⟩
  | s :: P, _, _, _, _, ⟨u, h1, h2⟩, h' => ⟨u, h1, Ch.app h2 h'⟩
section
variable {K : PySem.W.Frag} {G H : Hp}
theorem RpTs.foc : ∀ {ts : List T} {vs : List V} {o : List Addr} {n : Nat} {u : T}, RpTs K G H ts vs o → ts[n]? = some u → ∃ w o1 o2, vs[n]? = some w ∧ Rp K G H u w o1 ∧ o.Perm (o1 ++ o2) ∧
    ∀ {G' H' : Hp} {u' : T} {o1' : List Addr}, Same G G' → (∀ a ∈ o2, H' a = H a) → Rp K G' H' u' w o1' → ∃ o', RpTs K G' H' (ts.set n u') vs o' ∧ o'.Perm (o1' ++ o2)
  | [], _, _, _, _, _, e => by simp at e
  | t :: ts, _, _, 0, u, ⟨v, r, o1, o2, h1, h2, h3, h4⟩, e => by
    simp at e; subst e; subst h1
    exact ⟨v, o1, o2, rfl, h2, by rw [h4], fun {G' H' u' o1'} sg k h => ⟨o1' ++ o2, ⟨v, r, o1', o2, rfl, h, h3.mono sg _ k, rfl⟩, .refl _⟩⟩
  | t :: ts, _, _, n + 1, u, ⟨v, r, o1, o2, h1, h2, h3, h4⟩, e => by
    subst h1
    obtain ⟨w, p1, p2, g1, g2, g3, g4⟩ := RpTs.foc (n := n) h3 (by simpa using e)
    refine ⟨w, p1, o1 ++ p2, by simpa using g1, g2, ?_, fun {G' H' u' o1'} sg k h => ?_⟩
    · rw [h4]; exact (List.Perm.append_left o1 g3).trans (perm_mid _ _ _)
    · obtain ⟨o', f1, f2⟩ := g4 sg (fun a ha => k a (by simp [ha])) h
      exact ⟨o1 ++ o', ⟨v, r, o1, o', rfl, h2.mono sg _ (fun a ha => k a (by simp [ha])), f1, rfl⟩, (List.Perm.append_left o1 f2).trans (perm_mid _ _ _)⟩
theorem RpTk.foc : ∀ {ts : List (Key × T)} {vs : List (Key × V)} {o : List Addr} {n : Key} {u : T}, RpTk K G H ts vs o → valT ts n = some u → ∃ w o1 o2, valV vs n = some w ∧ Rp K G H u w o1 ∧ o.Perm (o1 ++ o2) ∧
    ∀ {G' H' : Hp} {u' : T} {o1' : List Addr}, Same G G' → (∀ a ∈ o2, H' a = H a) → Rp K G' H' u' w o1' → ∃ o', RpTk K G' H' (setT ts n u') vs o' ∧ o'.Perm (o1' ++ o2)
  | [], _, _, _, _, _, e => by simp [valT] at e
  | (j, t) :: ts, _, _, n, u, ⟨v, r, o1, o2, h1, h2, h3, h4⟩, e => by
    subst h1
    by_cases c : j = n
    · rw [valT, if_pos c] at e; cases e
      refine ⟨v, o1, o2, valV_pos (by exact c), h2, by rw [h4], fun {G' H' u' o1'} sg k h => ⟨o1' ++ o2, ?_, .refl _⟩⟩
      rw [setT, if_pos c]
      exact ⟨v, r, o1', o2, rfl, h, h3.mono sg _ k, rfl⟩
    · rw [valT, if_neg c] at e
      obtain ⟨w, p1, p2, g1, g2, g3, g4⟩ := RpTk.foc h3 e
      refine ⟨w, p1, o1 ++ p2, (valV_neg (by exact c)).trans g1, g2, ?_, fun {G' H' u' o1'} sg k h => ?_⟩
      · rw [h4]; exact (List.Perm.append_left o1 g3).trans (perm_mid _ _ _)
      · obtain ⟨o', f1, f2⟩ := g4 sg (fun a ha => k a (by simp [ha])) h
        rw [setT, if_neg c]
        exact ⟨o1 ++ o', ⟨v, r, o1, o', rfl, h2.mono sg _ (fun a ha => k a (by simp [ha])), f1, rfl⟩, (List.Perm.append_left o1 f2).trans (perm_mid _ _ _)⟩
theorem RpTt.foc : ∀ {ts : List (List Key × T)} {vs : List (List Key × V)} {o : List Addr} {n : List Key} {u : T}, RpTt K G H ts vs o → valT ts n = some u → ∃ w o1 o2, valV vs n = some w ∧ Rp K G H u w o1 ∧ o.Perm (o1 ++ o2) ∧
    ∀ {G' H' : Hp} {u' : T} {o1' : List Addr}, Same G G' → (∀ a ∈ o2, H' a = H a) → Rp K G' H' u' w o1' → ∃ o', RpTt K G' H' (setT ts n u') vs o' ∧ o'.Perm (o1' ++ o2)
  | [], _, _, _, _, _, e => by simp [valT] at e
  | (j, t) :: ts, _, _, n, u, ⟨v, r, o1, o2, h1, h2, h3, h4⟩, e => by
    subst h1
    by_cases c : j = n
    · rw [valT, if_pos c] at e; cases e
      refine ⟨v, o1, o2, valV_pos (by exact c), h2, by rw [h4], fun {G' H' u' o1'} sg k h => ⟨o1' ++ o2, ?_, .refl _⟩⟩
      rw [setT, if_pos c]
      exact ⟨v, r, o1', o2, rfl, h, h3.mono sg _ k, rfl⟩
    · rw [valT, if_neg c] at e
      obtain ⟨w, p1, p2, g1, g2, g3, g4⟩ := RpTt.foc h3 e
      refine ⟨w, p1, o1 ++ p2, (valV_neg (by exact c)).trans g1, g2, ?_, fun {G' H' u' o1'} sg k h => ?_⟩
      · rw [h4]; exact (List.Perm.append_left o1 g3).trans (perm_mid _ _ _)
      · obtain ⟨o', f1, f2⟩ := g4 sg (fun a ha => k a (by simp [ha])) h
        rw [setT, if_neg c]
        exact ⟨o1 ++ o', ⟨v, r, o1, o', rfl, h2.mono sg _ (fun a ha => k a (by simp [ha])), f1, rfl⟩, (List.Perm.append_left o1 f2).trans (perm_mid _ _ _)⟩
theorem lookup_cons (j n : Str) (v : V) (r : List (Str × V)) : List.lookup n ((j, v) :: r) = if j = n then some v else List.lookup n r := by
  rw [List.lookup_cons]
  by_cases c : j = n
  · subst c; simp
  · rw [if_neg c]
    have : (n == j) = false := by simpa using fun e => c e.symm
    rw [this]
theorem RpTf.foc : ∀ {ts : List (Str × T)} {vs : List (Str × V)} {o : List Addr} {n : Str} {u : T}, RpTf K G H ts vs o → valT ts n = some u → ∃ w o1 o2, vs.lookup n = some w ∧ Rp K G H u w o1 ∧ o.Perm (o1 ++ o2) ∧
    ∀ {G' H' : Hp} {u' : T} {o1' : List Addr}, Same G G' → (∀ a ∈ o2, H' a = H a) → Rp K G' H' u' w o1' → ∃ o', RpTf K G' H' (setT ts n u') vs o' ∧ o'.Perm (o1' ++ o2)
  | [], _, _, _, _, _, e => by simp [valT] at e
  | (j, t) :: ts, _, _, n, u, ⟨v, r, o1, o2, h1, h2, h3, h4⟩, e => by
    subst h1
    by_cases c : j = n
    · rw [valT, if_pos c] at e; cases e
      refine ⟨v, o1, o2, by rw [lookup_cons, if_pos c], h2, by rw [h4], fun {G' H' u' o1'} sg k h => ⟨o1' ++ o2, ?_, .refl _⟩⟩
      rw [setT, if_pos c]
      exact ⟨v, r, o1', o2, rfl, h, h3.mono sg _ k, rfl⟩
    · rw [valT, if_neg c] at e
      obtain ⟨w, p1, p2, g1, g2, g3, g4⟩ := RpTf.foc h3 e
      refine ⟨w, p1, o1 ++ p2, by rw [lookup_cons, if_neg c]; exact g1, g2, ?_, fun {G' H' u' o1'} sg k h => ?_⟩
      · rw [h4]; exact (List.Perm.append_left o1 g3).trans (perm_mid _ _ _)
      · obtain ⟨o', f1, f2⟩ := g4 sg (fun a ha => k a (by simp [ha])) h
        rw [setT, if_neg c]
        exact ⟨o1 ++ o', ⟨v, r, o1, o', rfl, h2.mono sg _ (fun a ha => k a (by simp [ha])), f1, rfl⟩, (List.Perm.append_left o1 f2).trans (perm_mid _ _ _)⟩
theorem Rp.unb {t : T} {v : V} {o : List Addr} (h : Rp K G H t v o) : Rp K G H (DL.unb t) v o := by
  cases t with
  | box a t => exact h.2
  | _ => exact h
theorem Rp.reb {G' H' : Hp} {t u : T} {v : V} {o o' : List Addr} (h : Rp K G H t v o) (h' : Rp K G' H' u v o') : Rp K G' H' (DL.reb t u) v o' := by
  cases t with
  | box a t => exact ⟨h.1, h'⟩
  | _ => exact h'
theorem Rp.focS {s : Stp} {t u : T} {v : V} {o : List Addr} (sGH : Same G H) (e : stepT s t = some u) (h : Rp K G H t v o) : ∃ w o1 o2, ChS H s v w ∧ Rp K G H u w o1 ∧ o.Perm (o1 ++ o2) ∧
    ∀ {G' H' : Hp} {u' : T} {o1' : List Addr}, Same G G' → (∀ a ∈ o2, H' a = H a) → Rp K G' H' u' w o1' → ∃ o', Rp K G' H' (setS s t u') v o' ∧ o'.Perm (o1' ++ o2) := by
  unfold stepT at e
  split at e
  · obtain ⟨a, ws, o', h1, h2, h3, h4⟩ := h
    obtain ⟨w, o1, o2, g1, g2, g3, g4⟩ := h3.foc e
    refine ⟨w, o1, a :: o2, ⟨a, ws, h1, h2, g1⟩, g2, ?_, fun {G' H' u' o1'} sg k hh => ?_⟩
    · rw [h4]; exact (List.Perm.cons a g3).trans List.perm_middle.symm
    · obtain ⟨o'', f1, f2⟩ := g4 sg (fun b hb => k b (by simp [hb])) hh
      exact ⟨a :: o'', ⟨a, ws, o'', h1, by rw [k a (by simp)]; exact h2, f1, rfl⟩, (List.Perm.cons a f2).trans List.perm_middle.symm⟩
  · obtain ⟨a, ws, o', h1, h2, h3, h4⟩ := h
    obtain ⟨w, o1, o2, g1, g2, g3, g4⟩ := h3.foc e
    refine ⟨w, o1, a :: o2, ⟨a, ws, h1, h2, g1⟩, g2, ?_, fun {G' H' u' o1'} sg k hh => ?_⟩
    · rw [h4]; exact (List.Perm.cons a g3).trans List.perm_middle.symm
    · obtain ⟨o'', f1, f2⟩ := g4 sg (fun b hb => k b (by simp [hb])) hh
      exact ⟨a :: o'', ⟨a, ws, o'', h1, by rw [k a (by simp)]; exact h2, f1, rfl⟩, (List.Perm.cons a f2).trans List.perm_middle.symm⟩
  · obtain ⟨a, ws, o', h1, h2, h3, h4⟩ := h
    obtain ⟨w, o1, o2, g1, g2, g3, g4⟩ := h3.foc e
    refine ⟨w, o1, a :: o2, ⟨a, ws, h1, h2, g1⟩, g2, ?_, fun {G' H' u' o1'} sg k hh => ?_⟩
    · rw [h4]; exact (List.Perm.cons a g3).trans List.perm_middle.symm
    · obtain ⟨o'', f1, f2⟩ := g4 sg (fun b hb => k b (by simp [hb])) hh
      exact ⟨a :: o'', ⟨a, ws, o'', h1, by rw [k a (by simp)]; exact h2, f1, rfl⟩, (List.Perm.cons a f2).trans List.perm_middle.symm⟩
  · obtain ⟨a, ws, h1, h2, h3⟩ := h
    obtain ⟨w, o1, o2, g1, g2, g3, g4⟩ := h3.foc e
    refine ⟨w, o1, o2, ⟨a, ws, h1, ?_, g1⟩, g2, g3, fun {G' H' u' o1'} sg k hh => ?_⟩
    · exact sGH _ _ h2
    · obtain ⟨o'', f1, f2⟩ := g4 sg k hh
      exact ⟨o'', ⟨a, ws, h1, sg _ _ h2, f1⟩, f2⟩
  · obtain ⟨a, C, dx, ws, o', h1, h0, h2, h3, h4⟩ := h
    obtain ⟨w, o1, o2, g1, g2, g3, g4⟩ := h3.foc e
    refine ⟨w, o1, a :: o2, ⟨a, C, dx, ws, h1, h2, g1⟩, g2, ?_, fun {G' H' u' o1'} sg k hh => ?_⟩
    · rw [h4]; exact (List.Perm.cons a g3).trans List.perm_middle.symm
    · obtain ⟨o'', f1, f2⟩ := g4 sg (fun b hb => k b (by simp [hb])) hh
      exact ⟨a :: o'', ⟨a, C, dx, ws, o'', h1, h0, by rw [k a (by simp)]; exact h2, f1, rfl⟩, (List.Perm.cons a f2).trans List.perm_middle.symm⟩
  · cases e
theorem Rp.foc (sGH : Same G H) : ∀ {P : List Stp} {t u : T} {v : V} {o : List Addr}, getP P t = some u → Rp K G H t v o → ∃ w o1 o2, Ch H P v w ∧ Rp K G H u w o1 ∧ o.Perm (o1 ++ o2) ∧
    ∀ {G' H' : Hp} {u' : T} {o1' : List Addr}, Same G G' → (∀ a ∈ o2, H' a = H a) → Rp K G' H' u' w o1' → ∃ o', Rp K G' H' (setP P t u') v o' ∧ o'.Perm (o1' ++ o2)
  | [], t, u, v, o, e, h => by
    cases e
    exact ⟨v, o, [], rfl, h, by simp, fun {G' H' u' o1'} sg k hh => ⟨o1', hh, by simp⟩⟩
  | s :: P, t, u, v, o, e, h => by
    obtain ⟨c, e1, e2⟩ := obind (show (stepT s (DL.unb t)).bind (getP P) = some u from e)
    obtain ⟨x, o1, o2, g1, g2, g3, g4⟩ := h.unb.focS sGH e1
    obtain ⟨w, p1, p2, f1, f2, f3, f4⟩ := Rp.foc sGH e2 g2
    refine ⟨w, p1, p2 ++ o2, ⟨x, g1, f1⟩, f2, ?_, fun {G' H' u' o1'} sg k hh => ?_⟩
    · rw [← List.append_assoc]; exact g3.trans (List.Perm.append_right _ f3)
    · obtain ⟨o', q1, q2⟩ := f4 sg (fun b hb => k b (by simp [hb])) hh
      obtain ⟨o'', q3, q4⟩ := g4 sg (fun b hb => k b (by simp [hb])) q1
      refine ⟨o'', ?_, ?_⟩
      · show Rp K G' H' (match stepT s (DL.unb t) with | some c => DL.reb t (setS s (DL.unb t) (setP P c u')) | none => t) v o''
        rw [e1]
        exact h.reb q3
      · rw [← List.append_assoc]; exact q4.trans (List.Perm.append_right _ q2)
theorem OkS.wr {G0 H0 : Hp} {W : List (T × V)} {ts es : List T} {vs ws : List V} {env : Env} {σ : St} {i : Nat} {P : List Stp} {t u : T} {v w : V} (S : OkS K G0 H0 W H (es ++ ts) (ws ++ vs) env σ) (hw : ws.length = es.length) (he : env[i]? = some (some t)) (hp : getP P t = some u)
    (hv : σ[i]? = some (some v)) (hc : Ch H P v w) : ∃ (G : Hp) (o1 o2 : List Addr), Rp K G H u w o1 ∧ RpTs K G H es ws o2 ∧ (o1 ++ o2).Nodup ∧ Same G H ∧ (∀ b ∈ o1 ++ o2, G b = none ∧ H0 b = none) ∧
    ∀ (a : Addr) (cell : HO) (u' : T) (es' : List T) (ws' : List V) (o3 o4 rest : List Addr), a ∈ o1 → Rp K G (upd H a cell) u' w o3 → RpTs K G (upd H a cell) es' ws' o4 → (o1 ++ o2).Perm (o3 ++ o4 ++ rest) → OkS K G0 H0 [] (upd H a cell) (es' ++ ts) (ws' ++ vs) (env.set i (some (setP P t u'))) σ := by
  obtain ⟨G, ot, oe, s⟩ := S
  obtain ⟨o2, o5, k1, k2, k3⟩ := s.tmp.split hw
  obtain ⟨v', oA, oB, e1, e2, e3, e4⟩ := s.env.take he
  rw [hv] at e1
  cases e1
  obtain ⟨w', o1, o6, f1, f2, f3, f4⟩ := e2.foc s.gh hp
  have := f1.det hc
  subst this
  have pm : (ot ++ oe).Perm ((o1 ++ o2) ++ (o6 ++ (o5 ++ oB))) := by
    rw [k3]
    have q1 : ((o2 ++ o5) ++ oe).Perm ((o2 ++ o5) ++ ((o1 ++ o6) ++ oB)) := List.Perm.append_left _ (e4.trans (List.Perm.append_right _ f3))
    refine q1.trans ?_
    have q2 : ((o2 ++ o5) ++ ((o1 ++ o6) ++ oB)).Perm (o1 ++ ((o2 ++ o5) ++ (o6 ++ oB))) := by
      rw [List.append_assoc o1]
      exact perm_mid _ _ _
    refine q2.trans ?_
    rw [List.append_assoc o1, List.append_assoc o2]
    exact List.Perm.append_left _ (List.Perm.append_left _ (perm_mid _ _ _))
  have nd := pm.nodup_iff.mp s.nd
  have fr : ∀ b ∈ (o1 ++ o2) ++ (o6 ++ (o5 ++ oB)), G b = none ∧ H0 b = none := fun b hb => s.fr b (pm.mem_iff.mpr hb)
  refine ⟨G, o1, o2, f2, k1, (List.nodup_append.mp nd).1, s.gh, fun b hb => fr b (List.mem_append_left _ hb), fun a cell u' es' ws' o3 o4 rest ha r1 r2 pm2 => ?_⟩
  have ha' : a ∈ o1 ++ o2 := List.mem_append_left _ ha
  have nea : ∀ b ∈ o6 ++ (o5 ++ oB), b ≠ a := fun b hb e => (List.nodup_append.mp nd).2.2 a ha' b hb e.symm
  have kp : ∀ b ∈ o6 ++ (o5 ++ oB), upd H a cell b = H b := fun b hb => upd_ne (nea b hb)
  obtain ⟨o7, q1, q2⟩ := f4 (Same.refl G) (fun b hb => kp b (by simp [hb])) r1
  have e3' := e3.mono (Same.refl G) _ (fun b hb => kp b (by simp [hb]))
  have hl : i < env.length := (List.getElem?_eq_some_iff.mp he).1
  obtain ⟨o8, g1, g2⟩ := e3'.put (i := i) (by simpa using hl) (fun x z => by rw [List.getElem?_set_self hl] at z; cases z) q1
  rw [List.set_set, set_back hv] at g1
  have t2 := k2.mono (Same.refl G) _ (fun b hb => kp b (by simp [hb]))
  have pm3 : ((o1 ++ o2) ++ (o6 ++ (o5 ++ oB))).Perm (((o4 ++ o5) ++ o8) ++ rest) := by
    refine (List.Perm.append_right _ pm2).trans ?_
    have a1 : o8.Perm (o3 ++ (o6 ++ oB)) := g2.trans (by rw [← List.append_assoc]; exact List.Perm.append_right _ q2)
    have a2 : (((o4 ++ o5) ++ o8) ++ rest).Perm (((o4 ++ o5) ++ (o3 ++ (o6 ++ oB))) ++ rest) := List.Perm.append_right _ (List.Perm.append_left _ a1)
    refine List.Perm.trans ?_ a2.symm
    have cnt : ∀ x, List.count x (o3 ++ o4 ++ rest ++ (o6 ++ (o5 ++ oB))) = List.count x (o4 ++ o5 ++ (o3 ++ (o6 ++ oB)) ++ rest) := fun x => by
      simp only [List.count_append]; omega
    exact List.perm_iff_count.mpr cnt
  have nd2 := pm3.nodup_iff.mp nd
  have sub : ∀ b ∈ (o4 ++ o5) ++ o8, b ∈ (o1 ++ o2) ++ (o6 ++ (o5 ++ oB)) := fun b hb => pm3.mem_iff.mpr (List.mem_append_left _ hb)
  refine ⟨G, o4 ++ o5, o8, r2.append t2, g1, (List.nodup_append.mp nd2).1, fun b hb => fr b (sub b hb), s.g0, fun b x e => ?_, fun b x e => ?_, s.nw, fun q hq => by cases hq⟩
  · have : b ≠ a := fun z => by subst z; rw [(fr b (List.mem_append_left _ ha')).1] at e; cases e
    rw [upd_ne this]; exact s.gh b x e
  · have : b ≠ a := fun z => by subst z; rw [(fr b (List.mem_append_left _ ha')).2] at e; cases e
    rw [upd_ne this]; exact s.h0 b x e
theorem OkS.at' {G0 H0 : Hp} {W : List (T × V)} {ts : List T} {vs : List V} {env : Env} {σ : St} {i : Nat} {P : List Stp} {t u : T} {v w : V} (S : OkS K G0 H0 W H ts vs env σ) (he : env[i]? = some (some t)) (hp : getP P t = some u)
    (hv : σ[i]? = some (some v)) (hc : Ch H P v w) : ∃ (G : Hp) (o1 : List Addr), Rp K G H u w o1 ∧ Same G H := by
  obtain ⟨G, o1, o2, h1, _, _, h2, _⟩ := OkS.wr (es := []) (ws := []) S rfl he hp hv hc
  exact ⟨G, o1, h1, h2⟩
end
abbrev PF := Env → Option (List Stp × Env)
def EvP (K : PySem.W.Frag) (te : TE) (i : Nat) (f : PF) : Prop := ∀ (G0 H0 : Hp) (W : List (T × V)) (H : Hp) (ts : List T) (vs : List V) (env : Env) (σ : St) (P : List Stp) (env' : Env), OkS K G0 H0 W H ts vs env σ → f env = some (P, env') →
  ∀ Q : VK, (∀ v w H', Same H H' → OkS K G0 H0 W H' ts vs env' σ → σ[i]? = some (some v) → Ch H' P v w → Q w H') → te σ H Q
structure DP (X : Cx) (e : Expr) (te : TE) (i : Nat) (f : PF) : Prop where
  pe : PE X e te
  ok : EvP X.K te i f
def atP (env : Env) (i : Nat) (P : List Stp) : Option T := match env[i]? with
  | some (some t) => getP P t
  | _ => none
theorem atP_eq {env : Env} {i : Nat} {P : List Stp} {u : T} (h : atP env i P = some u) : ∃ t, env[i]? = some (some t) ∧ getP P t = some u := by
  unfold atP at h
  split at h
  · rename_i t e; exact ⟨t, e, h⟩
  · cases h
def putP (env : Env) (i : Nat) (P : List Stp) (u : T) : Env := match env[i]? with
  | some (some t) => env.set i (some (setP P t u))
  | _ => env
theorem putP_eq {env : Env} {i : Nat} {P : List Stp} {t u : T} (h : env[i]? = some (some t)) : putP env i P u = env.set i (some (setP P t u)) := by
  unfold putP; rw [h]
def pNm (i : Nat) : PF := fun env => match env[i]? with
  | some (some _) => some ([], env)
  | _ => none
section
variable {X : Cx} {e o k : Expr} {te to tk : TE} {f fk : EF} {fo : PF} {i : Nat} {pos : Pos}
theorem dp_name (i : Nat) {x : Str} (hN : X.N[i]? = some x := by rfl) (hv : Vis X.env.scope x := by first | exact Or.inl rfl | exact Or.inr (Or.inl rfl) | exact Or.inr (Or.inr rfl)) (hd : (x == ("__debug__" : Str)) = false := by decide)
    (hcd : (x == ("__classdict__" : Str)) = false := by decide) : DP X (.Name x pos) (tVar i) i (pNm i) := by
  refine ⟨pe_var hN hv hd hcd, ?_⟩
  intro G0 H0 W H ts vs env σ P env' S g Q q
  unfold pNm at g
  split at g
  · rename_i t e
    cases g
    obtain ⟨v, hv1, S1⟩ := S.look e
    exact ⟨v, hv1, q v v H (Same.refl _) S hv1 rfl⟩
  · cases g
def pFld (n f : Str) (i : Nat) (fo : PF) : PF := fun env => (fo env).bind fun r => (atP r.2 i r.1).bind fun t => match unb t with
  | .obj m fs => if m = n then (valT fs f).map fun _ => (r.1 ++ [.fld f], r.2) else none
  | _ => none
def Att (K : PySem.W.Frag) (n f : Str) : Prop := ∀ C, ClsN K n C → Cls K C ∧ NoAttr K C f
def pKey (i : Nat) (fo : PF) (fk : EF) : PF := fun env => (fo env).bind fun r => (fk r.2).bind fun s => (keyT s.1).bind fun k => (atP s.2 i r.1).bind fun t => match unb t with
  | .dic kvs => (valT kvs k).map fun _ => (r.1 ++ [.key k], s.2)
  | _ => none
def pIx (i : Nat) (fo : PF) (fk : EF) : PF := fun env => (fo env).bind fun r => (fk r.2).bind fun s => match s.1 with
  | .p (.int z) => (atP s.2 i r.1).bind fun t => match unb t with
    | .lst ts => (ixN ts.length z).bind fun j => (ts[j]?).map fun _ => (r.1 ++ [.ix j], s.2)
    | .tup ts => (ixN ts.length z).bind fun j => (ts[j]?).map fun _ => (r.1 ++ [.it j], s.2)
    | _ => none
  | _ => none
theorem dp_ix (h : DP X o to i fo) (hk : DT X k tk fk) (hs : PlainIx k := by exact fun _ _ => rfl) : DP X (.Subscript o k pos) (tOp (rIx X.K) to tk) i (pIx i fo fk) := by
  refine ⟨pe_ix ix_seq h.pe hk.pe hs, ?_⟩
  intro G0 H0 W H ts vs env σ P env' S g Q q
  obtain ⟨⟨P1, e1⟩, g1, g2⟩ := obind g
  obtain ⟨⟨z, e2⟩, g3, g4⟩ := obind g2
  dsimp only at g4
  split at g4
  · rename_i zi
    obtain ⟨t, g7, g8⟩ := obind g4
    obtain ⟨t0, g9, g10⟩ := atP_eq g7
    refine h.ok _ _ _ _ _ _ _ _ _ _ S g1 _ fun v w H1 s1 S1 hv hc => ?_
    refine hk.ok _ _ _ _ _ _ _ _ _ _ S1 g3 _ fun y H2 s2 S2 => ?_
    have ey : y = .int zi := S2.top
    subst ey
    have hc2 := hc.same s2
    obtain ⟨G, o1, r, sG⟩ := S2.pop.at' g9 g10 hv hc2
    have r := r.unb
    split at g8
    · rename_i us hun
      rw [hun] at r
      obtain ⟨j, k1, k2⟩ := obind g8
      obtain ⟨u, k3, k4⟩ := omap k2
      cases k4
      obtain ⟨a, xs, o', h1, h2, h3, h4⟩ := r
      obtain ⟨x, p1, p2, f1, _⟩ := h3.foc k3
      exact .inl ⟨a, xs, zi, x, h1, rfl, .inl (.inl h2), atI_of k1 h3.len f1, q v x H2 (s1.trans s2) S2.pop hv (hc2.app ⟨a, xs, h1, h2, f1⟩)⟩
    · rename_i us hun
      rw [hun] at r
      obtain ⟨j, k1, k2⟩ := obind g8
      obtain ⟨u, k3, k4⟩ := omap k2
      cases k4
      obtain ⟨a, xs, h1, h2, h3⟩ := r
      obtain ⟨x, p1, p2, f1, _⟩ := h3.foc k3
      exact .inr (.inl ⟨a, xs, zi, x, h1, rfl, tup_seq sG h2, atI_of k1 h3.len f1, q v x H2 (s1.trans s2) S2.pop hv (hc2.app ⟨a, xs, h1, sG _ _ h2, f1⟩)⟩)
    · cases g8
  · cases g4
end
end DL
set_option Elab.async false
set_option linter.all false
set_option maxRecDepth 100000
set_option maxHeartbeats 1000000
namespace DL
open PySem PySem.Spec PyProof.Rows L2
section
variable {K : PySem.W.Frag} {G0 H0 H : Hp} {W : List (T × V)} {ts : List T} {vs : List V} {env : Env} {σ : St}
end
def valF (n f : Str) : T → Option T
  | .obj m fs => if m = n then valT fs f else none
  | .p (.obj m fs) => if m = n then ((fs.find? fun kv => decide (kv.1 = f)).map fun kv => T.p kv.2) else none
  | _ => none
theorem RpKf.foc {K : PySem.W.Frag} {G : Hp} : ∀ {fs : List (Str × D)} {ws : List (Str × V)} {f : Str} {kv : Str × D}, RpKf K G fs ws → (fs.find? fun kv => decide (kv.1 = f)) = some kv → ∃ w, ws.lookup f = some w ∧ RpD K G kv.2 w
  | [], _, _, _, _, e => by simp at e
  | (j, d) :: fs, _, f, kv, ⟨v, r, h1, h2, h3⟩, e => by
    subst h1
    by_cases c : j = f
    · rw [List.find?_cons_of_pos (by simpa using c)] at e
      cases e
      exact ⟨v, by rw [lookup_cons, if_pos c], h2⟩
    · rw [List.find?_cons_of_neg (by simpa using c)] at e
      obtain ⟨w, g1, g2⟩ := RpKf.foc h3 e
      exact ⟨w, by rw [lookup_cons, if_neg c]; exact g1, g2⟩
def eFl (n f : Str) (fo : EF) : EF := fun env => (fo env).bind fun r => (valF n f (unb r.1)).map fun u => (u, r.2)
section
variable {X : Cx} {e o k : Expr} {te to tk : TE} {f fk fo : EF} {i : Nat} {pos apos cpos : Pos}
def valK (k : Key) : T → Option T
  | .dic kvs => valT kvs k
  | .p (.dic kvs) => (valD kvs k).map T.p
  | _ => none
def eDk (fo fk : EF) : EF := fun env => (fo env).bind fun r => (fk r.2).bind fun s => (keyT s.1).bind fun k => (valK k (unb r.1)).map fun u => (u, s.2)
end
end DL
set_option Elab.async false
set_option linter.all false
set_option maxRecDepth 100000
set_option maxHeartbeats 1000000
namespace DL
open PySem PySem.Spec PyProof.Rows L2
def putT {κ : Type} [DecidableEq κ] (kvs : List (κ × T)) (k : κ) (t : T) : List (κ × T) := if (kvs.any fun kv => decide (kv.1 = k)) = true then kvs.map (fun kv => if kv.1 = k then (kv.1, t) else kv) else kvs ++ [(k, t)]
def cntT {κ : Type} [DecidableEq κ] (kvs : List (κ × T)) (k : κ) : Nat := (kvs.filter fun kv => decide (kv.1 = k)).length
def isP : T → Bool
  | .p _ => true
  | _ => false
def okPut {κ : Type} [DecidableEq κ] (kvs : List (κ × T)) (k : κ) (t : T) : Bool := isP t || decide (cntT kvs k ≤ 1)
def dropT {κ : Type} [DecidableEq κ] (kvs : List (κ × T)) (k : κ) : List (κ × T) := kvs.filter fun kv => decide (kv.1 ≠ k)
def putFT (fs : List (Str × T)) (f : Str) (t : T) : List (Str × T) := match fs with
  | [] => [(f, t)]
  | (g, x) :: r => if g = f then (g, t) :: r else (g, x) :: putFT r f t
section
variable {K : PySem.W.Frag} {G H : Hp}
theorem RpTk.any (k : Key) : ∀ {kvs : List (Key × T)} {xs : List (Key × V)} {o : List Addr}, RpTk K G H kvs xs o → (xs.any fun kv => decide (kv.1 = k)) = kvs.any fun kv => decide (kv.1 = k)
  | [], _, _, h => by rw [h.1]; rfl
  | (j, d) :: r, _, _, ⟨v, r', o1, o2, h1, h2, h3, h4⟩ => by rw [h1, List.any_cons, List.any_cons, RpTk.any k h3]
theorem RpTk.len : ∀ {kvs : List (Key × T)} {xs : List (Key × V)} {o : List Addr}, RpTk K G H kvs xs o → xs.length = kvs.length
  | [], _, _, h => by rw [h.1]; rfl
  | (j, d) :: r, _, _, ⟨v, r', o1, o2, h1, h2, h3, h4⟩ => by rw [h1, List.length_cons, List.length_cons, RpTk.len h3]
theorem RpTk.noKey {k : Key} (f : Key × T → Key × T) (g : Key × V → Key × V) (hf : ∀ kv, kv.1 ≠ k → f kv = kv) (hg : ∀ kv, kv.1 ≠ k → g kv = kv) : ∀ {kvs : List (Key × T)} {xs : List (Key × V)} {o : List Addr}, RpTk K G H kvs xs o → cntT kvs k = 0 → RpTk K G H (kvs.map f) (xs.map g) o
  | [], _, _, h, _ => by rw [h.1, h.2]; exact ⟨rfl, rfl⟩
  | (j, d) :: r, _, _, ⟨v, r', o1, o2, h1, h2, h3, h4⟩, hc => by
    subst h1
    have hj : j ≠ k := fun e => by simp [cntT, e] at hc
    have hc' : cntT r k = 0 := by simpa [cntT, hj] using hc
    rw [List.map_cons, List.map_cons, hf (j, d) hj, hg (j, v) hj]
    exact ⟨v, _, o1, o2, rfl, h2, RpTk.noKey f g hf hg h3 hc', h4⟩
theorem RpTk.put {k : Key} {t : T} {v : V} {o' : List Addr} (ht : Rp K G H t v o') : ∀ {kvs : List (Key × T)} {xs : List (Key × V)} {o : List Addr}, RpTk K G H kvs xs o → okPut kvs k t = true → ∃ o3 rest, RpTk K G H (putT kvs k t) (putK xs k v) o3 ∧ (o ++ o').Perm (o3 ++ rest) := by
  intro kvs xs o h hok
  unfold putT putK
  rw [h.any k]
  by_cases ha : (kvs.any fun kv => decide (kv.1 = k)) = true
  · rw [if_pos ha, if_pos ha]
    unfold okPut at hok
    rw [Bool.or_eq_true] at hok
    rcases hok with hp | hc
    · -- a pure thing
      cases t with
      | p d =>
        have eo : o' = [] := ht.2
        subst eo
        clear ha
        induction kvs generalizing xs o with
        | nil => exact ⟨[], [], by rw [h.1]; exact ⟨rfl, rfl⟩, by rw [h.2]⟩
        | cons kv r ih =>
          obtain ⟨j, x⟩ := kv
          obtain ⟨w, r', o1, o2, h1, h2, h3, h4⟩ := h
          subst h1
          obtain ⟨o3, rest, q1, q2⟩ := ih h3
          rw [List.append_nil] at q2
          by_cases c : j = k
          · refine ⟨o3, o1 ++ rest, ?_, ?_⟩
            · rw [List.map_cons, List.map_cons, if_pos c, if_pos c]
              exact ⟨v, _, [], o3, rfl, ht, q1, rfl⟩
            · rw [h4, List.append_nil]
              exact (List.Perm.append_left o1 q2).trans (perm_mid _ _ _)
          · refine ⟨o1 ++ o3, rest, ?_, ?_⟩
            · rw [List.map_cons, List.map_cons, if_neg c, if_neg c]
              exact ⟨w, _, o1, o3, rfl, h2, q1, rfl⟩
            · rw [h4, List.append_nil, List.append_assoc]
              exact List.Perm.append_left o1 q2
      | _ => cases hp
    · replace hc := of_decide_eq_true hc
      clear ha
      induction kvs generalizing xs o with
      | nil => exact ⟨[], o', by rw [h.1]; exact ⟨rfl, rfl⟩, by rw [h.2]⟩
      | cons kv r ih =>
        obtain ⟨j, x⟩ := kv
        obtain ⟨w, r', o1, o2, h1, h2, h3, h4⟩ := h
        subst h1
        by_cases c : j = k
        · have hc0 : cntT r k = 0 := by simp [cntT, c] at hc ⊢; exact hc
          have q := RpTk.noKey (k := k) (fun kv => if kv.1 = k then (kv.1, t) else kv) (fun kv => if kv.1 = k then (kv.1, v) else kv) (fun kv e => if_neg e) (fun kv e => if_neg e) h3 hc0
          refine ⟨o' ++ o2, o1, ?_, ?_⟩
          · rw [List.map_cons, List.map_cons, if_pos c, if_pos c]
            exact ⟨v, _, o', o2, rfl, ht, q, rfl⟩
          · rw [h4]
            have cnt : ∀ x, List.count x (o1 ++ o2 ++ o') = List.count x (o' ++ o2 ++ o1) := fun x => by simp only [List.count_append]; omega
            exact List.perm_iff_count.mpr cnt
        · have hc0 : cntT r k ≤ 1 := by simpa [cntT, c] using hc
          obtain ⟨o3, rest, q1, q2⟩ := ih h3 hc0
          refine ⟨o1 ++ o3, rest, ?_, ?_⟩
          · rw [List.map_cons, List.map_cons, if_neg c, if_neg c]
            exact ⟨w, _, o1, o3, rfl, h2, q1, rfl⟩
          · rw [h4, List.append_assoc, List.append_assoc]
            exact List.Perm.append_left o1 q2
  · rw [if_neg ha, if_neg ha]
    refine ⟨o ++ o', [], ?_, by simp⟩
    clear hok ha
    induction kvs generalizing xs o with
    | nil => rw [h.1, h.2]; exact ⟨v, [], o', [], rfl, ht, ⟨rfl, rfl⟩, by simp⟩
    | cons kv r ih =>
      obtain ⟨j, x⟩ := kv
      obtain ⟨w, r', o1, o2, h1, h2, h3, h4⟩ := h
      subst h1; subst h4
      rw [List.append_assoc]
      exact ⟨w, _, o1, o2 ++ o', rfl, h2, ih h3, rfl⟩
theorem RpTk.drop (k : Key) : ∀ {kvs : List (Key × T)} {xs : List (Key × V)} {o : List Addr}, RpTk K G H kvs xs o → ∃ o3 rest, RpTk K G H (dropT kvs k) (dropK xs k) o3 ∧ o.Perm (o3 ++ rest)
  | [], _, _, h => ⟨[], [], by rw [h.1]; exact ⟨rfl, rfl⟩, by rw [h.2]; simp⟩
  | (j, t) :: r, _, _, ⟨w, r', o1, o2, h1, h2, h3, h4⟩ => by
    subst h1
    obtain ⟨o3, rest, q1, q2⟩ := RpTk.drop k h3
    unfold dropT dropK at q1 ⊢
    by_cases c : j = k
    · refine ⟨o3, o1 ++ rest, ?_, ?_⟩
      · rw [List.filter_cons_of_neg (by simpa using c), List.filter_cons_of_neg (by simpa using c)]; exact q1
      · rw [h4]; exact (List.Perm.append_left o1 q2).trans (perm_mid _ _ _)
    · refine ⟨o1 ++ o3, rest, ?_, ?_⟩
      · rw [List.filter_cons_of_pos (by simpa using c), List.filter_cons_of_pos (by simpa using c)]
        exact ⟨w, _, o1, o3, rfl, h2, q1, rfl⟩
      · rw [h4, List.append_assoc]; exact List.Perm.append_left o1 q2
theorem RpTk.take (k : Key) : ∀ {kvs : List (Key × T)} {xs : List (Key × V)} {o : List Addr} {t : T}, RpTk K G H kvs xs o → valT kvs k = some t → ∃ w o3 o4 rest, valV xs k = some w ∧ Rp K G H t w o4 ∧ RpTk K G H (dropT kvs k) (dropK xs k) o3 ∧ o.Perm (o3 ++ o4 ++ rest)
  | [], _, _, _, _, e => by simp [valT] at e
  | (j, t) :: r, _, _, u, ⟨w, r', o1, o2, h1, h2, h3, h4⟩, e => by
    subst h1
    by_cases c : j = k
    · rw [valT, if_pos c] at e; cases e
      obtain ⟨o3, rest, q1, q2⟩ := RpTk.drop k h3
      refine ⟨w, o3, o1, rest, valV_pos (by exact c), h2, ?_, ?_⟩
      · unfold dropT dropK at q1 ⊢
        rw [List.filter_cons_of_neg (by simpa using c), List.filter_cons_of_neg (by simpa using c)]; exact q1
      · rw [h4]
        refine (List.Perm.append_left o1 q2).trans ?_
        rw [← List.append_assoc]
        exact List.Perm.append_right _ List.perm_append_comm
    · rw [valT, if_neg c] at e
      obtain ⟨w', o3, o4, rest, f1, f2, f3, f4⟩ := RpTk.take k h3 e
      refine ⟨w', o1 ++ o3, o4, rest, (valV_neg (by exact c)).trans f1, f2, ?_, ?_⟩
      · unfold dropT dropK at f3 ⊢
        rw [List.filter_cons_of_pos (by simpa using c), List.filter_cons_of_pos (by simpa using c)]
        exact ⟨w, _, o1, o3, rfl, h2, f3, rfl⟩
      · rw [h4, List.append_assoc, List.append_assoc]
        exact List.Perm.append_left o1 (by rw [List.append_assoc] at f4; exact f4)
theorem RpTf.put {f : Str} {t : T} {v : V} {o' : List Addr} (ht : Rp K G H t v o') : ∀ {fs : List (Str × T)} {xs : List (Str × V)} {o : List Addr}, RpTf K G H fs xs o → ∃ o3 rest, RpTf K G H (putFT fs f t) (putF f v xs) o3 ∧ (o ++ o').Perm (o3 ++ rest)
  | [], _, _, h => ⟨o', [], by rw [h.1]; exact ⟨v, [], o', [], rfl, ht, ⟨rfl, rfl⟩, by simp⟩, by rw [h.2]; simp⟩
  | (j, x) :: r, _, _, ⟨w, r', o1, o2, h1, h2, h3, h4⟩ => by
    subst h1
    by_cases c : j = f
    · refine ⟨o' ++ o2, o1, ?_, ?_⟩
      · rw [putFT, putF, if_pos c, if_pos c]
        exact ⟨v, _, o', o2, rfl, ht, h3, rfl⟩
      · rw [h4]
        exact List.perm_iff_count.mpr fun x => by simp only [List.count_append]; omega
    · obtain ⟨o3, rest, q1, q2⟩ := RpTf.put ht h3
      refine ⟨o1 ++ o3, rest, ?_, ?_⟩
      · rw [putFT, putF, if_neg c, if_neg c]
        exact ⟨w, _, o1, o3, rfl, h2, q1, rfl⟩
      · rw [h4, List.append_assoc, List.append_assoc]
        exact List.Perm.append_left o1 q2
theorem RpTf.len : ∀ {kvs : List (Str × T)} {xs : List (Str × V)} {o : List Addr}, RpTf K G H kvs xs o → xs.length = kvs.length
  | [], _, _, h => by rw [h.1]; rfl
  | (j, d) :: r, _, _, ⟨v, r', o1, o2, h1, h2, h3, h4⟩ => by rw [h1, List.length_cons, List.length_cons, RpTf.len h3]
end
theorem wN {H : Hp} {a : Addr} {cell : HO} {o : List Addr} (h : a ∉ o) : ∀ b ∈ o, upd H a cell b = H b := fun b hb => upd_ne (fun e => h (e ▸ hb))
section
variable {X : Cx} {e o k : Expr} {te to tk : TE} {f fk : EF} {fo : PF} {i : Nat} {pos cpos apos ipos tpos : Pos}
def sAppP (i : Nat) (fo : PF) (f : EF) : SF := fun env => (fo env).bind fun r => (atP r.2 i r.1).bind fun t0 => match unb t0 with
  | .lst _ => (f r.2).bind fun s => (atP s.2 i r.1).bind fun t => match unb t with
    | .lst us => if us.length < 16000000 then some (.nx, putP s.2 i r.1 (reb t (.lst (us ++ [s.1])))) else none
    | _ => none
  | _ => none
theorem ds_appP (ho : DP X o to i fo) (h : DT X e te f) (hb : attributeBase o "append" X.env (eval o X.env) = eval o X.env := by rfl)
    (hse : starEach [e] X.env = (false, eval e X.env) :: starEach [] X.env := by rfl)
    (hfew : ((backTo cpos (starEach [e] X.env)).all (fun x => !x.1) && (backToKw cpos (keywordEach [] X.env)).all (fun x => x.1.isSome)
      && decide ([e].length + ([] : List Keyword).length + (if ([] : List Keyword).isEmpty then 0 else 1) < 30)) = true := by rfl)
    (hline : (apos.endLine == cpos.line) = true := by rfl)
    (hs : swapsWith (.Call (.Attribute o "append" apos) [e] [] cpos) none pos.line X.env = pure false := by rfl) :
    DS X (.Expr (.Call (.Attribute o "append" apos) [e] [] cpos) pos) (tDrop (tBM X.K "list" rAppend to (tCons te tNil))) (sAppP i fo f) [] := by
  refine ⟨ps_expr (pe_bm PySem.F.plainAttrs_list PySem.F.slot_list_append PySem.F.type_list_append mt_append ho.pe (pa_cons h.pe pa_nil hse) hb hfew hline hse rfl) hs, ?_⟩
  intro G0 H0 H ts vs env σ fl env' S g D q
  obtain ⟨⟨P, e1⟩, g1, g2⟩ := obind g
  obtain ⟨t0, g3, g4⟩ := obind g2
  dsimp only at g4
  split at g4
  · rename_i us0 hu0
    obtain ⟨⟨y, e2⟩, g5, g6⟩ := obind g4
    obtain ⟨t, g7, g8⟩ := obind g6
    dsimp only at g8
    split at g8
    · rename_i us hu
      split at g8
      · rename_i hl
        cases g8
        refine ho.ok _ _ _ _ _ _ _ _ _ _ S g1 _ fun v w H1 s1 S1 hv hc => ?_
        obtain ⟨tt0, k1, k2⟩ := atP_eq g3
        obtain ⟨G, o1, r, sG⟩ := S1.at' k1 k2 hv hc
        have r := r.unb
        rw [hu0] at r
        obtain ⟨a, xs0, o', h1, h2, _⟩ := r
        subst h1
        refine ⟨.inl ⟨rfl, xs0, .inl (.inl h2)⟩, ?_⟩
        refine h.ok _ _ _ _ _ _ _ _ _ _ S1 g5 _ fun x H2 s2 S2 => ?_
        obtain ⟨tt, k3, k4⟩ := atP_eq g7
        obtain ⟨G2, p1, p2, r1, r2, nd, sG2, fr, wr⟩ := OkS.wr (es := [y]) (ws := [x]) S2 rfl k3 k4 hv (hc.same s2)
        have ru := r1.unb
        rw [hu] at ru
        obtain ⟨a', xs, o2, h1', h2', h3', h4'⟩ := ru
        cases h1'
        subst h4'
        have nd' : (a :: (o2 ++ p2)).Nodup := nd
        have na : a ∉ o2 ++ p2 := (List.nodup_cons.mp nd').1
        refine ⟨a, xs, x, rfl, rfl, h2', by rw [h3'.len, sizeLine_eq]; omega, ?_⟩
        have r3 := (h3'.append r2).mono (Same.refl G2) (H' := upd H2 a (.lst (xs ++ [x]))) _ (wN na)
        have S3 := wr a (.lst (xs ++ [x])) (reb t (.lst (us ++ [y]))) [] [] (a :: (o2 ++ p2)) [] [] (by simp) (r1.reb ⟨a, _, _, rfl, upd_same, r3, rfl⟩) ⟨rfl, rfl⟩ (by simp)
        rw [← putP_eq k3] at S3
        exact q _ _ S3 .rfl'
      · cases g8
    · cases g8
  · cases g4
def sPutP (i : Nat) (fo : PF) (fk f : EF) : SF := fun env => (f env).bind fun r => (fo r.2).bind fun p => (fk p.2).bind fun s => (keyT s.1).bind fun k => (atP s.2 i p.1).bind fun t => match unb t with
  | .dic kvs => if kvs.length < 16000000 ∧ okPut kvs k r.1 = true then some (.nx, putP s.2 i p.1 (reb t (.dic (putT kvs k r.1)))) else none
  | _ => none
def sFldP (n a : Str) (i : Nat) (fo : PF) (f : EF) : SF := fun env => (f env).bind fun r => (fo r.2).bind fun p => (atP p.2 i p.1).bind fun t => match unb t with
  | .obj m fs => if m = n ∧ fs.length < 900 then some (.nx, putP p.2 i p.1 (reb t (.obj m (putFT fs a r.1)))) else none
  | _ => none
end
end DL
set_option Elab.async false
set_option linter.all false
set_option maxRecDepth 100000
set_option maxHeartbeats 1000000
namespace DL
open PySem PySem.Spec PyProof.Rows L2
def EvX (K : PySem.W.Frag) (te : TE) (f : EF) : Prop := ∀ (G0 H0 H : Hp) (ts : List T) (vs : List V) (env : Env) (σ : St) (t : T) (env' : Env), OkS K G0 H0 [] H ts vs env σ → f env = some (t, env') →
  ∀ Q : VK, (∀ v H', OkS K G0 H0 [] H' (t :: ts) (v :: vs) env' σ → Q v H') → te σ H Q
def EvAX (K : PySem.W.Frag) (ta : TA) (f : AF) : Prop := ∀ (G0 H0 H : Hp) (ts : List T) (vs : List V) (env : Env) (σ : St) (us : List T) (env' : Env), OkS K G0 H0 [] H ts vs env σ → f env = some (us, env') →
  ∀ Q : List V → Hp → Prop, (∀ ws H', ws.length = us.length → OkS K G0 H0 [] H' (us ++ ts) (ws ++ vs) env' σ → Q ws H') → ta σ H Q
structure DX (X : Cx) (e : Expr) (te : TE) (f : EF) : Prop where
  pe : PE X e te
  ok : EvX X.K te f
structure DAX (X : Cx) (es : List Expr) (ta : TA) (f : AF) : Prop where
  pa : PA X es ta
  ok : EvAX X.K ta f
section
variable {X : Cx} {e a b : Expr} {es : List Expr} {te ta tb : TE} {tr : TA} {f fa fb : EF} {fr : AF} {pos : Pos}
theorem DT.dx (h : DT X e te f) : DX X e te f := ⟨h.pe, fun G0 H0 H ts vs env σ t env' S g Q q => h.ok _ _ _ _ _ _ _ _ _ _ S g Q fun v H' _ S' => q v H' S'⟩
theorem DA.dx (h : DA X es tr fr) : DAX X es tr fr := ⟨h.pa, fun G0 H0 H ts vs env σ t env' S g Q q => h.ok _ _ _ _ _ _ _ _ _ _ S g Q fun v H' _ hl S' => q v H' hl S'⟩
theorem dax_nil : DAX X [] tNil aN := da_nil.dx
theorem dax_cons (h : DX X e te f) (hr : DAX X es tr fr) (hs : starEach (e :: es) X.env = (false, eval e X.env) :: starEach es X.env := by rfl) : DAX X (e :: es) (tCons te tr) (aC f fr) := by
  refine ⟨pa_cons h.pe hr.pa hs, ?_⟩
  intro G0 H0 H ts vs env σ us env' S g Q q
  obtain ⟨⟨x, e1⟩, h1, h2⟩ := obind g
  obtain ⟨⟨y, e2⟩, h3, h4⟩ := omap h2
  cases h4
  refine h.ok _ _ _ _ _ _ _ _ _ S h1 _ fun v H1 S1 => ?_
  refine hr.ok _ _ _ _ _ _ _ _ _ S1 h3 _ fun ws H2 hl S2 => ?_
  exact q (v :: ws) H2 (by simp [hl]) (S2.mid hl)
theorem dx_tup {k} (h : DAX X es tr fr) : DX X (.Tuple es k pos) (tTup tr) (eT fr) := by
  refine ⟨pe_tup h.pa, ?_⟩
  intro G0 H0 H ts vs env σ t env' S g Q q
  obtain ⟨⟨x, e1⟩, h1, h2⟩ := obind g
  by_cases hl : x.length ≤ 1000
  · rw [if_pos hl] at h2
    cases h2
    refine h.ok _ _ _ _ _ _ _ _ _ S h1 _ fun ws H1 hw S1 => ⟨by rw [hw]; exact le1000 hl, fun p hp => ?_⟩
    exact q _ _ (S1.newT hw hp)
  · rw [if_neg hl] at h2; cases h2
theorem dx_op {op : Operator} {r : R2} {g : D → D → Option D} (ho : OpR X (binaryOp op) r) (hs : Sc2 r g) (ha : DX X a ta fa) (hb : DX X b tb fb) : DX X (.BinOp a op b pos) (tOp r ta tb) (eOp g fa fb) := by
  refine ⟨pe_op ho ha.pe hb.pe, ?_⟩
  intro G0 H0 H ts vs env σ t env' S e Q q
  obtain ⟨a, e1, b, d, h1, h2, h3, rfl⟩ := eOp_some e
  refine ha.ok _ _ _ _ _ _ _ _ _ S h1 _ fun v H1 S1 => ?_
  refine hb.ok _ _ _ _ _ _ _ _ _ S1 h2 _ fun w H2 S2 => ?_
  exact hs a b d h3 X.K H2 v w Q S2.pop.top S2.top fun u hu => q u H2 (S2.pop.pop.scal hu)
theorem dx_add (ha : DX X a ta fa) (hb : DX X b tb fb) : DX X (.BinOp a .Add b pos) (tOp rAddA ta tb) (eOp gAdd fa fb) := dx_op op_addA sc_add ha hb
theorem dx_fz (h : DX X e te f) : DX X e te (eFz f) := by
  refine ⟨h.pe, ?_⟩
  intro G0 H0 H ts vs env σ t env' S g Q q
  obtain ⟨⟨x, e1⟩, h1, h2⟩ := omap g
  cases h2
  exact h.ok _ _ _ _ _ _ _ _ _ S h1 _ fun v H1 S1 => q v H1 S1.frz
theorem ds_setX {i : Nat} {x : Str} {pos' : Pos} (hN : X.N.Nodup) (hi : X.N[i]? = some x) (hx : Loc X.env.scope x) (he : DX X e te f) (hs : swapsWith e (some (.Name x pos')) pos.line X.env = pure false := by rfl) (hf : X.fn x = true ∨ X.env.scope.names.lookup x = some .local := by first | exact .inl rfl | exact .inr rfl | assumption) :
    DS X (.Assign [.Name x pos'] e pos) (tAsg te (gName i)) (sSet i f) [i] := by
  refine ⟨ps_set hN hi hx he.pe hs hf, ?_⟩
  intro G0 H0 H ts vs env σ fl env' S g D q
  obtain ⟨⟨x, e1⟩, g1, g2⟩ := obind g
  by_cases hi : i < e1.length
  · rw [if_pos hi] at g2
    cases g2
    exact he.ok _ _ _ _ _ _ _ _ _ S g1 _ fun v H' S' => q H' _ (S'.put hi) .set
  · rw [if_neg hi] at g2; cases g2
end
def ePop (i : Nat) (fo : PF) (fk fx : EF) : EF := fun env => (fo env).bind fun r => (atP r.2 i r.1).bind fun t0 => match unb t0 with
  | .dic _ => (fk r.2).bind fun s => (fx s.2).bind fun x => (keyT s.1).bind fun k => (atP x.2 i r.1).bind fun t => match unb t with
    | .dic kvs => some (match valT kvs k with
      | some u => (u, putP x.2 i r.1 (reb t (.dic (dropT kvs k))))
      | none => (x.1, x.2))
    | _ => none
  | _ => none
section
variable {X : Cx} {e o k x : Expr} {te to tk tx : TE} {f fk fx : EF} {fo : PF} {i : Nat} {pos cpos apos ipos tpos : Pos}
end
def spM (n : Nat) (φ : T → List D → Option (T × T)) (K : PySem.W.Frag) : Sp := fun vs H Q _ => ∃ (t0 : T) (ds : List D) (v0 : V) (vs' : List V) (t t' : T) (G : Hp) (o : List Addr), vs = v0 :: vs' ∧ ds.length = n ∧ φ t0 ds = some (t, t') ∧ Same G H ∧ Rp K G H t0 v0 o ∧ o.Nodup ∧ (∀ a ∈ o, G a = none) ∧ RpDs K G ds vs' ∧
  ∀ v G' H' o1 o2, Same G G' → Same G' H' → (∀ a u, a ∉ o → H a = some u → H' a = some u) → Rp K G' H' t v o1 → Rp K G' H' t' v0 o2 → (o1 ++ o2).Nodup → (∀ a ∈ o1 ++ o2, G' a = none ∧ (a ∈ o ∨ H a = none)) →
    (∀ a u, G' a = some u → G a ≠ none ∨ H a = none ∨ a ∈ o ∨ ∃ xs, u = .tup xs) → Q v H'
def startM (n : Nat) (t0 : T) (ds : List D) : Env := some t0 :: startE (n - 1) ds
def runM (n k : Nat) (F : SF) (t0 : T) (ds : List D) : Option (T × T) := if ds.length = k then (F (startM n t0 ds)).bind fun r => match r.2[0]? with
  | some (some t') => match r.1 with
    | .rt t => some (t, t')
    | .nx => some (.p .non, t')
    | _ => none
  | _ => none
  else none
section
variable {P : Program} {w : World} {K : PySem.W.Frag} {mg : Str → Option Value} {base : Heap}
end
theorem OkS.lend {K : PySem.W.Frag} {G0 H0 H : Hp} {ts : List T} {vs ws : List V} {ds : List D} {env : Env} {σ : St} {i : Nat} {P : List Stp} {t u : T} {v w : V} (S : OkS K G0 H0 [] H (ds.map T.p ++ ts) (ws ++ vs) env σ) (hw : ws.length = ds.length) (he : env[i]? = some (some t)) (hp : getP P t = some u)
    (hv : σ[i]? = some (some v)) (hc : Ch H P v w) : ∃ (G : Hp) (o1 : List Addr), Same G H ∧ Rp K G H u w o1 ∧ o1.Nodup ∧ (∀ a ∈ o1, G a = none) ∧ RpDs K G ds ws ∧
    ∀ (r : V) (G' H' : Hp) (p1 p2 : List Addr) (t' u' : T), Same G G' → Same G' H' → (∀ a x, a ∉ o1 → H a = some x → H' a = some x) → Rp K G' H' t' r p1 → Rp K G' H' u' w p2 → (p1 ++ p2).Nodup → (∀ a ∈ p1 ++ p2, G' a = none ∧ (a ∈ o1 ∨ H a = none)) →
      (∀ a x, G' a = some x → G a ≠ none ∨ H a = none ∨ a ∈ o1 ∨ ∃ xs, x = .tup xs) → OkS K G0 H0 [] H' (t' :: ts) (r :: vs) (env.set i (some (setP P t u'))) σ := by
  obtain ⟨G, ot, oe, s⟩ := S
  obtain ⟨o2, o5, k1, k2, k3⟩ := s.tmp.split (us := ds.map T.p) (by rw [List.length_map]; exact hw)
  obtain ⟨kd, k4⟩ := rpDs_of k1
  subst k4
  have k3 : ot = o5 := k3
  subst k3
  obtain ⟨v', oA, oB, e1, e2, e3, e4⟩ := s.env.take he
  rw [hv] at e1
  cases e1
  obtain ⟨w', o1, o6, f1, f2, f3, f4⟩ := e2.foc s.gh hp
  have := f1.det hc
  subst this
  have pm : (ot ++ oe).Perm (o1 ++ (o6 ++ (ot ++ oB))) := by
    have q1 : (ot ++ oe).Perm (ot ++ ((o1 ++ o6) ++ oB)) := List.Perm.append_left _ (e4.trans (List.Perm.append_right _ f3))
    refine q1.trans (List.perm_iff_count.mpr fun x => by simp only [List.count_append]; omega)
  have nd := pm.nodup_iff.mp s.nd
  have fr : ∀ b ∈ o1 ++ (o6 ++ (ot ++ oB)), G b = none ∧ H0 b = none := fun b hb => s.fr b (pm.mem_iff.mpr hb)
  have thr : ∀ b ∈ o6 ++ (ot ++ oB), ∃ x, H b = some x ∧ ∀ xs, x ≠ .tup xs := fun b hb => by
    have : b ∈ ot ++ oe := pm.mem_iff.mpr (List.mem_append_right _ hb)
    rcases List.mem_append.mp this with h | h
    · exact s.tmp.there _ b h
    · exact s.env.there _ b h
  refine ⟨G, o1, s.gh, f2, (List.nodup_append.mp nd).1, fun a ha => (fr a (List.mem_append_left _ ha)).1, kd, fun r G' H' p1 p2 t' u' g1 g2 g3 g4 g5 g6 g7 g8 => ?_⟩
  have out : ∀ b ∈ o6 ++ (ot ++ oB), b ∉ o1 := fun b hb h => (List.nodup_append.mp nd).2.2 b h b hb rfl
  have kp : ∀ b ∈ o6 ++ (ot ++ oB), H' b = H b := fun b hb => by
    obtain ⟨x, e, _⟩ := thr b hb
    rw [e, g3 b x (out b hb) e]
  obtain ⟨o7, q1, q2⟩ := f4 g1 (fun b hb => kp b (by simp [hb])) g5
  have e3' := e3.mono g1 _ (fun b hb => kp b (by simp [hb]))
  have hl : i < env.length := (List.getElem?_eq_some_iff.mp he).1
  obtain ⟨o8, h1, h2⟩ := e3'.put (i := i) (by simpa using hl) (fun x z => by rw [List.getElem?_set_self hl] at z; cases z) q1
  rw [List.set_set, set_back hv] at h1
  have t2 := k2.mono g1 _ (fun b hb => kp b (by simp [hb]))
  have pm8 : o8.Perm (p2 ++ (o6 ++ oB)) := h2.trans (by rw [← List.append_assoc]; exact List.Perm.append_right _ q2)
  have pmN : ((p1 ++ ot) ++ o8).Perm ((p1 ++ p2) ++ (o6 ++ (ot ++ oB))) := (List.Perm.append_left _ pm8).trans (List.perm_iff_count.mpr fun x => by simp only [List.count_append]; omega)
  refine ⟨G', p1 ++ ot, o8, ⟨r, vs, p1, ot, rfl, g4, t2, rfl⟩, h1, pmN.nodup_iff.mpr ?_, fun a ha => ?_, s.g0.trans g1, g2, fun a x e => ?_, fun a x e => ?_, fun q hq => by cases hq⟩
  · refine List.nodup_append.mpr ⟨g6, (List.nodup_append.mp nd).2.1, fun a ha b hb e => ?_⟩
    subst e
    rcases (g7 a ha).2 with c | c
    · exact out a hb c
    · obtain ⟨x, ex, _⟩ := thr a hb
      rw [c] at ex; cases ex
  · rcases List.mem_append.mp (pmN.mem_iff.mp ha) with ha | ha
    · obtain ⟨c1, c2⟩ := g7 a ha
      refine ⟨c1, ?_⟩
      rcases c2 with c2 | c2
      · exact (fr a (List.mem_append_left _ c2)).2
      · exact Same.none s.h0 c2
    · refine ⟨?_, (fr a (List.mem_append_right _ ha)).2⟩
      cases q : G' a with
      | none => rfl
      | some x =>
        obtain ⟨x', ex, ne⟩ := thr a ha
        rcases g8 a x q with z | z | z | ⟨xs, z⟩
        · exact absurd (fr a (List.mem_append_right _ ha)).1 z
        · rw [z] at ex; cases ex
        · exact absurd z (out a ha)
        · have := g2 a x q
          rw [g3 a x' (out a ha) ex] at this
          cases this
          exact absurd z (ne xs)
  · have na : a ∉ o1 := fun h => by rw [(fr a (List.mem_append_left _ h)).2] at e; cases e
    exact g3 a x na (s.h0 a x e)
  · rcases g8 a x e with z | z | z | z
    · cases q : G a with
      | none => exact absurd q z
      | some y =>
        have := g1 a y q
        rw [e] at this; cases this
        exact s.nw a x q
    · exact .inr (.inl (Same.none s.h0 z))
    · exact .inr (.inl (fr a (List.mem_append_left _ z)).2)
    · exact .inr (.inr z)
def eCallM (φ : T → List D → Option (T × T)) (i : Nat) (fo : PF) (fr : AF) : EF := fun env => (fo env).bind fun r => (fr r.2).bind fun s => (allP s.1).bind fun ds => (atP s.2 i r.1).bind fun t0 => (φ t0 ds).map fun z => (z.1, putP s.2 i r.1 z.2)
def eMethM (n m : Str) (φ : T → List D → Option (T × T)) (i : Nat) (fo : PF) (fr : AF) : EF := fun env => (fo env).bind fun r => (atP r.2 i r.1).bind fun t => match unb t with
  | .obj c fs => if c = n ∧ (valT fs m).isNone = true then eCallM φ i (fun _ => some (r.1, r.2)) fr r.2 else none
  | _ => none
section
variable {X : Cx} {k : Nat} {f C : Addr} {fd : FuncData} {ps : List Str} {n : Nat} {φ : T → List D → Option (T × T)} {x m : Str} {p pos apos : Pos} {e o : Expr} {es : List Expr} {to : TE} {fo : PF} {i : Nat} {ta : TA} {fa : AF}
def eMake (nm : Str) (φ : T → List D → Option (T × T)) (fr : AF) : EF := fun env => (fr env).bind fun s => (allP s.1).bind fun ds => (φ (.obj nm []) ds).bind fun z => match z.1 with
  | .p .non => some (z.2, s.2)
  | _ => none
end
end DL
set_option Elab.async false
set_option linter.all false
set_option maxRecDepth 100000
set_option maxHeartbeats 1000000
namespace DL
open PySem PySem.Spec PyProof.Rows L2
theorem ev_compX {K : PySem.W.Frag} {wi : TI} {fi : IF} {g : TG} {G : GF} {sl own : List Nat} {tt : TT} {ct : CF} {te : TE} {fe : EF} (hI : EvI K wi fi) (hg : EvG K g G sl) (hsl : ∀ j ∈ sl, j ∈ own) (ht : EvC K tt ct) (he : EvX K te fe) : EvX K (tLc wi g tt te own) (eComp own fi G ct fe) := by
  intro G0 H0 H ts vs env σ t env' S e Q q
  obtain ⟨⟨ds, e1⟩, g1, g2⟩ := obind e
  by_cases hlen : ds.length ≤ 1000000
  · rw [if_pos hlen] at g2
    obtain ⟨⟨us, e2⟩, g3, g4⟩ := omap g2
    cases g4
    refine hI _ _ _ _ _ _ _ _ _ _ S g1 _ fun J H1 G1 s1 gst I S1 => ?_
    intro D hD
    have S3 : OkS K G1 H0 [] (upd H1 D (.lst [])) (.lst [] :: ts) (.ref D :: vs) (wipeE e1 own) (wipe σ own) := (OkS.newL (us := []) (ws := []) rfl S1 hD).toWipe own
    refine ⟨fun i m H => m = ds.length - i ∧ i ≤ ds.length ∧ ∃ env acc rest, OkS K G1 H0 [] H (.lst acc :: ts) (.ref D :: vs) env (wipe σ own) ∧ compD own G ct fe (ds.drop i) env = some (rest, e2) ∧ us = acc ++ rest ∧ acc.length ≤ i ∧ (∀ (j : Nat) (t : T), env[j]? = some (some t) → j ∉ own),
      ⟨ds.length, by simp, Nat.zero_le _, wipeE e1 own, [], us, S3, by simpa using g3, rfl, Nat.le_refl _, fun j t e => (wipeE_some e).1⟩, ?_⟩
    rintro i m Hi ⟨rfl, hle, envi, acc, rest, Si, hc, hu, ha, hw0⟩
    by_cases hlt : i < ds.length
    · refine .inr ⟨I.go i Hi Si.same hlt, fun H' => i + 1 ≤ ds.length ∧ ∃ env acc rest, OkS K G1 H0 [] H' (.lst acc :: ts) (.ref D :: vs) env (wipe σ own) ∧ compD own G ct fe (ds.drop (i + 1)) env = some (rest, e2) ∧ us = acc ++ rest ∧ acc.length ≤ i + 1 ∧ (∀ (j : Nat) (t : T), env[j]? = some (some t) → j ∉ own), fun H' ⟨h1, h2⟩ => ⟨ds.length - (i + 1), by omega, rfl, h1, h2⟩, fun x H3 y => ?_⟩
      obtain ⟨s3, S4⟩ := I.item Si (List.getElem?_eq_getElem hlt) y
      rw [List.drop_eq_getElem_cons hlt] at hc
      obtain ⟨e3, l1, l2⟩ := obind hc
      obtain ⟨⟨b, e4⟩, l3, l4⟩ := obind l2
      refine hg _ _ _ _ _ _ _ _ _ _ _ S4 l1 _ fun σ2 S5 dif => ?_
      have hw : wipe σ2 own = wipe σ own := by
        refine wipe_eq (dif.1.trans (wipe_length _ _)) fun j hj => (dif.2 j fun z => hj (hsl j z)).trans (wipe_out' hj)
      have again : ∀ {H4 : Hp} {e5 : Env} {acc' : List T}, OkS K G1 H0 [] H4 (.lst acc' :: ts) (.ref D :: vs) e5 σ2 → OkS K G1 H0 [] H4 (.lst acc' :: ts) (.ref D :: vs) (wipeE e5 own) (wipe σ own) := fun S => by
        rw [← hw]; exact S.toWipe own
      refine ⟨hw, ?_⟩
      refine ht _ _ _ _ _ _ _ _ _ _ S5 l3 _ fun H4 s4 S6 => ?_
      cases b with
      | false =>
        rw [if_neg Bool.false_ne_true]
        exact ⟨hlt, _, acc, rest, again S6, l4, hu, by omega, fun j t e => (wipeE_some e).1⟩
      | true =>
        rw [if_pos rfl]
        obtain ⟨⟨u, e5⟩, l5, l6⟩ := obind (show (fe e4).bind (fun s => (compD own G ct fe (ds.drop (i + 1)) (wipeE s.2 own)).map fun z => (s.1 :: z.1, z.2)) = some (rest, e2) from l4)
        obtain ⟨⟨zs, e6⟩, l7, l8⟩ := omap l6
        cases l8
        refine he _ _ _ _ _ _ _ _ _ S6 l5 _ fun y H5 S7 => ?_
        have S8 : OkS K G1 H0 [] H5 (.lst acc :: ([u] ++ ts)) (.ref D :: ([y] ++ vs)) e5 σ2 := OkS.mid (us := [u]) (ws := [y]) (x := .lst acc) (y := .ref D) rfl S7
        obtain ⟨a, xs, k1, k2, k3, k4⟩ := OkS.wrL (es := [u]) (ws := [y]) S8 rfl
        cases k1
        exact ⟨xs, k2, by rw [k3, sizeLine_eq]; omega, hlt, _, acc ++ [u], zs, again (k4 (acc ++ [u]) (xs ++ [y]) fun G o1 o2 r1 r2 => ⟨o1 ++ o2, [], r1.append r2, by simp⟩), l7, by rw [hu]; simp, by simp; omega, fun j t e => (wipeE_some e).1⟩
    · have hi' : i = ds.length := by omega
      subst hi'
      rw [List.drop_length] at hc
      cases hc
      rw [List.append_nil] at hu
      subst hu
      have Sf : OkS K G1 H0 [] Hi (.lst us :: ts) (.ref D :: vs) e2 σ := Si.slots (by rw [wipe_length]) fun j t e => (wipe_out' (hw0 j t e)).symm
      exact .inl ⟨I.stop Hi Si.same, q _ Hi (Sf.back gst)⟩
  · rw [if_neg hlen] at g2; cases g2
def teX (K : PySem.W.Frag) (f : EF) : TE := fun σ H Q => ∃ (G0 H0 : Hp) (ts : List T) (vs : List V) (env : Env) (t : T) (env' : Env), OkS K G0 H0 [] H ts vs env σ ∧ f env = some (t, env') ∧ ∀ v H', OkS K G0 H0 [] H' (t :: ts) (v :: vs) env' σ → Q v H'
theorem ev_teX {K : PySem.W.Frag} {f : EF} : EvX K (teX K f) f := fun G0 H0 H ts vs env σ t env' S e Q q => ⟨G0, H0, ts, vs, env, t, env', S, e, q⟩
theorem pe_X {X : Cx} {e : Expr} {te : TE} {f : EF} (h : DX X e te f) : PE X e (teX X.K f) := ⟨fun pins s σ H Q I ⟨_, _, _, _, _, _, _, S, g, q⟩ => h.pe.run pins s σ H Q I (h.ok _ _ _ _ _ _ _ _ _ S g Q q)⟩
section
variable {X : Cx} {elt tg iter : Expr} {ifs : List Expr} {scope : Scope} {own : List (Str × Nat)} {pos spos py : Pos} {wi : TI} {fi : IF} {g : Shared → Hp → Addr → List (Str × Addr) → List Addr → TG} {G : GF} {sl : List Nat} {tt : Shared → Hp → Addr → List (Str × Addr) → List Addr → TT} {ct : CF} {te : Shared → Hp → Addr → List (Str × Addr) → List Addr → TE} {fe : EF} {i : Nat} {y : Str}
theorem evs_setX {K : PySem.W.Frag} {i : Nat} {te : TE} {f : EF} (h : EvX K te f) : EvS K (tAsg te (gName i)) (sSet i f) [i] := by
  intro G0 H0 H ts vs env σ fl env' S g D q
  obtain ⟨⟨x, e1⟩, g1, g2⟩ := obind g
  by_cases hi : i < e1.length
  · rw [if_pos hi] at g2
    cases g2
    exact h _ _ _ _ _ _ _ _ _ S g1 _ fun v H' S' => q H' _ (S'.put hi) .set
  · rw [if_neg hi] at g2; cases g2
theorem ds_setLcX (hc : X.calm = true) (hN : X.N.Nodup) (hy : X.N[i]? = some y) (hyl : X.env.scope.names.lookup y = some .local)
    (hsw : swapsWith (.ListComp elt [⟨tg, iter, ifs, 0⟩] scope pos) (some (.Name y py)) spos.line X.env = pure true) (hi : DI X tg iter wi fi) (ok : BlkOk X.N X.env.scope scope own)
    (hg : ∀ (s : Shared) (H : Hp) (C : Addr) (cl : List (Str × Addr)) (fp : List Addr), DG (X.blk s H scope (compEnvC scope cl C X.env) fp) tg (g s H C cl fp) G sl) (ht : ∀ (s : Shared) (H : Hp) (C : Addr) (cl : List (Str × Addr)) (fp : List Addr), DTs (X.blk s H scope (compEnvC scope cl C X.env) fp) ifs (tt s H C cl fp) ct)
    (he : ∀ (s : Shared) (H : Hp) (C : Addr) (cl : List (Str × Addr)) (fp : List Addr), DX (X.blk s H scope (compEnvC scope cl C X.env) fp) elt (te s H C cl fp) fe) (hsl : ∀ j ∈ sl, j ∈ own.map (·.2) := by decide) (hs : ∀ x, foldedSetIterable iter X.env x = pure x := by intro _; rfl) :
    DS X (.Assign [.Name y py] (.ListComp elt [⟨tg, iter, ifs, 0⟩] scope pos) spos) (tAsg (tLc wi (tgW X.K G sl) (ttW X.K ct) (teX X.K fe) (own.map (·.2))) (gName i)) (sSet i (eComp (own.map (·.2)) fi G ct fe)) [i] :=
  ⟨ps_setLc hc hN hy hyl hsw hi.pi ok (fun s H C cl fp => pg_W (hg s H C cl fp)) (fun s H C cl fp => pts_W (ht s H C cl fp)) (fun s H C cl fp => pe_X (he s H C cl fp)) hs,
    evs_setX (ev_compX hi.ok ev_tgW hsl ev_ttW ev_teX)⟩
end
def isO : T → Bool
  | .obj _ _ => true
  | _ => false
def sAugF (n a : Str) (hh : Int → Int → Int) (i : Nat) (fo : PF) (f : EF) : SF := fun env => (fo env).bind fun r => (atP r.2 i r.1).bind fun t0 => (valF n a (unb t0)).bind fun u => (asI u).bind fun x0 => (f r.2).bind fun y => (asI y.1).bind fun y0 => (atP y.2 i r.1).bind fun t1 => match unb t1 with
  | .obj m fs => if m = n ∧ fs.length < 900 ∧ isO (unb t0) = true then some (.nx, putP y.2 i r.1 (reb t1 (.obj m (putFT fs a (.p (.int (hh x0 y0))))))) else none
  | _ => none
def sAugK (hh : Int → Int → Int) (i : Nat) (fo : PF) (fk f : EF) : SF := fun env => (fo env).bind fun r => (fk r.2).bind fun s => (keyT s.1).bind fun k => (atP s.2 i r.1).bind fun t0 => match unb t0 with
  | .dic kvs0 => (valT kvs0 k).bind fun u => (asI u).bind fun x0 => (f s.2).bind fun y => (asI y.1).bind fun y0 => (atP y.2 i r.1).bind fun t1 => match unb t1 with
    | .dic kvs => if kvs.length < 16000000 then some (.nx, putP y.2 i r.1 (reb t1 (.dic (putT kvs k (.p (.int (hh x0 y0))))))) else none
    | _ => none
  | _ => none
section
variable {X : Cx} {e o k : Expr} {te to tk : TE} {f fk : EF} {fo : PF} {i : Nat} {pos ipos tpos : Pos}
end
end DL
set_option Elab.async false
set_option linter.all false
set_option maxRecDepth 100000
set_option maxHeartbeats 1000000
namespace DB
open PySem PySem.Spec PyProof.Rows L2
def tListVals (te : TE) : TE := fun σ H Q => te σ H fun x H1 => ∃ (a : Addr) (kvs : List (Key × V)), x = .ref a ∧ Rd H1 a (.dK kvs) ∧ ∀ p, H1 p = none → Q (.ref p) (upd H1 p (.lst (kvs.map fun kv => kv.2)))
end DB
namespace DL
open PySem PySem.Spec PyProof.Rows L2
def kD : Key → D
  | .inl i => .int i
  | .inr s => .str s
def keysT : T → Option (List Key)
  | .dic kvs => some (kvs.map (·.1))
  | .p (.dic kvs) => some (kvs.map (·.1))
  | _ => none
theorem RpTk.keys {K : PySem.W.Frag} {G H : Hp} : ∀ {kvs : List (Key × T)} {xs : List (Key × V)} {o : List Addr}, RpTk K G H kvs xs o → xs.map (·.1) = kvs.map (·.1)
  | [], _, _, h => by rw [h.1]; rfl
  | (j, d) :: r, _, _, ⟨v, r', o1, o2, h1, h2, h3, h4⟩ => by rw [h1, List.map_cons, List.map_cons, RpTk.keys h3]
theorem RpKs.keys {K : PySem.W.Frag} {G : Hp} : ∀ {kvs : List (Key × D)} {xs : List (Key × V)}, RpKs K G kvs xs → xs.map (·.1) = kvs.map (·.1)
  | [], _, h => by rw [show _ = _ from h]; rfl
  | (j, d) :: r, _, ⟨v, r', h1, h2, h3⟩ => by rw [h1, List.map_cons, List.map_cons, RpKs.keys h3]
section
variable {K : PySem.W.Frag} {G0 H0 H : Hp} {W : List (T × V)} {ts : List T} {vs : List V} {env : Env} {σ : St} {t : T} {v : V}
theorem OkS.keys {ks : List Key} (S : OkS K G0 H0 ((t, v) :: W) H ts vs env σ) (h : keysT (unb t) = some ks) : ∃ a xs, v = .ref a ∧ Rd H a (.dK xs) ∧ xs.map (·.1) = ks := by
  obtain ⟨G, ot, oe, s⟩ := S
  obtain ⟨o, r⟩ : ∃ o, Rp K G H t v o := s.vw (t, v) (by simp)
  have r := r.unb
  cases hu : unb t with
  | dic kvs =>
    rw [hu] at h r
    cases h
    obtain ⟨a, xs, o', h1, h2, h3, h4⟩ := r
    exact ⟨a, xs, h1, .inl h2, h3.keys⟩
  | p d =>
    rw [hu] at h r
    cases d with
    | dic kvs =>
      cases h
      obtain ⟨⟨a, xs, h1, h2, h3⟩, _⟩ := r
      exact ⟨a, xs, h1, Same.rd s.gh h2, h3.keys⟩
    | _ => cases h
  | _ => rw [hu] at h; cases h
end
section
variable {X : Cx} {e : Expr} {te : TE} {f : EF} {p pos apos cpos : Pos}
def eKeysL (f : EF) : EF := fun env => (f env).bind fun r => (keysT (unb r.1)).map fun ks => (.lst ((ks.map kD).map T.p), r.2)
def eValsL (f : EF) : EF := fun env => (f env).bind fun r => (dicT (unb r.1)).map fun kvs => (.lst ((kvs.map (·.2)).map T.p), r.2)
def eDictC (f : EF) : EF := fun env => (f env).bind fun r => (dicT (unb r.1)).map fun kvs => (.dic (pairsT kvs), r.2)
def pairsD : List D → Option (List (Key × D))
  | [] => some []
  | .tup [k, d] :: r => (keyD k).bind fun kk => (pairsD r).map ((kk, d) :: ·)
  | _ => none
def mergeD (kvs : List (Key × D)) (more : List (Key × D)) : List (Key × D) := more.foldl (fun acc kv => putD acc kv.1 kv.2) kvs
def eDictP (f : EF) : EF := fun env => (f env).bind fun r => (itemsT r.1).bind fun ds => if isLT r.1 = true then (pairsD ds).map fun kvs => (.dic (pairsT (mergeD [] kvs)), r.2) else none
end
end DL
set_option Elab.async false
set_option linter.all false
set_option maxRecDepth 100000
set_option maxHeartbeats 1000000
namespace DL
open PySem PySem.Spec PyProof.Rows L2
def Plain (u : HO) : Prop := ∀ o x, u ≠ .frz o x
structure SwR (G G' : Hp) : Prop where
  rd : ∀ a u, Plain u → Rd G a u → Rd G' a u
  ins : ∀ a C dx fs, G a = some (.ins C dx fs) → G' a = some (.ins C dx fs)
  tup : ∀ a xs, G a = some (.tup xs) → G' a = some (.tup xs)
section
variable {K : PySem.W.Frag} {G G' H H' : Hp}
end
def lk (G : Hp) (d : Addr) (u : HO) : Hp := fun a => if a = d then (match G d with | some _ => some u | none => none) else G a
theorem lk_ne {G : Hp} {d a : Addr} {u : HO} (h : a ≠ d) : lk G d u a = G a := if_neg h
theorem lk_at {G : Hp} {d : Addr} {u x : HO} (h : G d = some x) : lk G d u d = some u := by unfold lk; rw [if_pos rfl, h]
theorem SwR.lk {G : Hp} {d : Addr} {x u : HO} (gd : G d = some x) (hxu : ∀ y, Plain y → (x = y ∨ ∃ o, x = .frz o y) → (u = y ∨ ∃ o, u = .frz o y)) (hi : ∀ C dx fs, x ≠ .ins C dx fs) (hxt : ∀ xs, x ≠ .tup xs) : SwR G (lk G d u) := ⟨fun a y hp h => by
    by_cases c : a = d
    · subst c
      have : x = y ∨ ∃ o, x = .frz o y := by
        rcases h with h | ⟨o, h⟩
        · rw [gd] at h; exact .inl (Option.some.inj h)
        · rw [gd] at h; exact .inr ⟨o, Option.some.inj h⟩
      rcases hxu y hp this with q | ⟨o, q⟩
      · exact .inl (by rw [lk_at gd, q])
      · exact .inr ⟨o, by rw [lk_at gd, q]⟩
    · rcases h with h | ⟨o, h⟩
      · exact .inl (by rw [lk_ne c]; exact h)
      · exact .inr ⟨o, by rw [lk_ne c]; exact h⟩, fun a C dx fs h => by
    have : a ≠ d := fun z => by subst z; rw [gd] at h; exact hi _ _ _ (Option.some.inj h)
    rw [lk_ne this]; exact h, fun a xs h => by
    have : a ≠ d := fun z => by subst z; rw [gd] at h; exact hxt _ (Option.some.inj h)
    rw [lk_ne this]; exact h⟩
def forR (J : It) (g : TG) (tb : TS) (D : Ends) (σ : St) (H1 : Hp) : Prop := ∃ W : Nat → Nat → St → Hp → Prop, (∃ m, W 0 m σ H1) ∧ ∀ i m σ H, W i m σ H →
  (J.stop i H ∧ D.nx σ H) ∨ (J.go i H ∧ ∃ N : St → Hp → Prop, (∀ σ' H', N σ' H' → ∃ m', m' < m ∧ W (i + 1) m' σ' H') ∧ ∀ x H', J.yld i H x H' → g x σ H' fun σ2 H2 => tb { D with nx := N, ct := N, bk := D.nx } σ2 H2)
section
variable {K : PySem.W.Frag} {G0 H0 G1 H H1 : Hp} {ts : List T} {vs : List V} {σ : St}
end
structure ItD (K : PySem.W.Frag) (it : Addr → Obj → List (Key × V) → It) (mk : Key × D → D) : Prop where
  ok : ∀ {G : Hp} {a : Addr} {o : Obj} {kvs : List (Key × D)} {xs : List (Key × V)}, G a = some (.frz o (.dK xs)) → RpKs K G kvs xs → ItOk K G (it a o xs) (kvs.map mk)
theorem RpKs.get {K : PySem.W.Frag} {G : Hp} : ∀ {kvs : List (Key × D)} {xs : List (Key × V)}, RpKs K G kvs xs → ∀ (i : Nat) (k : Key) (d : D), kvs[i]? = some (k, d) → ∃ v, xs[i]? = some (k, v) ∧ RpD K G d v
  | [], _, _, i, _, _, e => by simp at e
  | (k, d) :: kvs, _, ⟨v, r, h1, h2, h3⟩, 0, _, _, e => by
    simp at e; obtain ⟨rfl, rfl⟩ := e; subst h1; exact ⟨v, rfl, h2⟩
  | (k, d) :: kvs, _, ⟨v, r, h1, h2, h3⟩, i + 1, k', d', e => by
    subst h1
    obtain ⟨v', f1, f2⟩ := RpKs.get h3 i k' d' (by simpa using e)
    exact ⟨v', by simpa using f1, f2⟩
theorem RpKs.len {K : PySem.W.Frag} {G : Hp} {kvs : List (Key × D)} {xs : List (Key × V)} (h : RpKs K G kvs xs) : xs.length = kvs.length := by
  have := congrArg List.length h.keys
  simpa using this
def iDic (mk : Key × D → D) (f : EF) : IF := fun env => (f env).bind fun r => match r.1 with
  | .p (.dic kvs) => some (kvs.map mk, r.2)
  | _ => none
def tDic (wi : TI) (g : TG) (tb : TS) : TS := fun D σ H => tFor wi g tb D σ H ∨ tLock (tFor wi g tb) D σ H
theorem Post.imp {K : PySem.W.Frag} {G0 H0 G0' H0' : Hp} {ts : List T} {vs : List V} {D D' : Ends} {fl : Fl} {env' : Env} {sl : List Nat} {σ : St} (q : Post K G0 H0 ts vs D fl env' sl σ)
    (h : ∀ (ts' : List T) (vs' : List V) H' σ', OkS K G0' H0' [] H' ts' vs' env' σ' → ∃ H'', OkS K G0 H0 [] H'' ts' vs' env' σ' ∧ (D.nx σ' H'' → D'.nx σ' H') ∧ (D.bk σ' H'' → D'.bk σ' H') ∧ (D.ct σ' H'' → D'.ct σ' H') ∧ (∀ v, D.rt v H'' → D'.rt v H')) : Post K G0' H0' ts vs D' fl env' sl σ := by
  cases fl with
  | nx => intro H' σ' S f; obtain ⟨H'', S', a, b, c, d⟩ := h _ _ _ _ S; exact a (q H'' σ' S' f)
  | bk => intro H' σ' S f; obtain ⟨H'', S', a, b, c, d⟩ := h _ _ _ _ S; exact b (q H'' σ' S' f)
  | ct => intro H' σ' S f; obtain ⟨H'', S', a, b, c, d⟩ := h _ _ _ _ S; exact c (q H'' σ' S' f)
  | rt t => intro v H' σ' S f; obtain ⟨H'', S', a, b, c, d⟩ := h _ _ _ _ S; exact d v (q v H'' σ' S' f)
def iKy (f : EF) : IF := iDic (fun kv => kD kv.1) f
def iIts (f : EF) : IF := iDic (fun kv => .tup [kD kv.1, kv.2]) f
def iVls (f : EF) : IF := iDic (fun kv => kv.2) f
section
variable {X : Cx} {tg : Expr} {body : List Stmt} {g : TG} {G : GF} {tb : TS} {F : SF} {pos npos apos cpos tpos : Pos} {sl sl2 : List Nat} {x : Str}
end
end DL
set_option Elab.async false
set_option linter.all false
set_option maxRecDepth 100000
set_option maxHeartbeats 1000000
namespace DL
open PySem PySem.Spec PyProof.Rows L2
section
variable {X : Cx} {e o k : Expr} {te to tk : TE} {f fk : EF} {fo : PF} {i : Nat} {pos cpos apos ipos tpos : Pos}
def sExtP (i : Nat) (fo : PF) (f : EF) : SF := fun env => (fo env).bind fun r => (atP r.2 i r.1).bind fun t0 => match unb t0 with
  | .lst _ => (f r.2).bind fun s => match s.1 with
    | .lst us2 => (atP s.2 i r.1).bind fun t => match unb t with
      | .lst us => if us.length + us2.length < 16000000 then some (.nx, putP s.2 i r.1 (reb t (.lst (us ++ us2)))) else none
      | _ => none
    | _ => none
  | _ => none
def sRevP (i : Nat) (fo : PF) : SF := fun env => (fo env).bind fun r => (atP r.2 i r.1).bind fun t => match unb t with
  | .lst us => some (.nx, putP r.2 i r.1 (reb t (.lst us.reverse)))
  | _ => none
theorem RpTs.reverse {K : PySem.W.Frag} {G H : Hp} : ∀ {ts : List T} {vs : List V} {o : List Addr}, RpTs K G H ts vs o → ∃ o', RpTs K G H ts.reverse vs.reverse o' ∧ o'.Perm o
  | [], _, _, h => ⟨[], by rw [h.1]; exact ⟨rfl, rfl⟩, by rw [h.2]⟩
  | t :: ts, _, _, ⟨v, r, o1, o2, h1, h2, h3, h4⟩ => by
    subst h1
    obtain ⟨o', f1, f2⟩ := RpTs.reverse h3
    refine ⟨o' ++ (o1 ++ []), ?_, ?_⟩
    · rw [List.reverse_cons, List.reverse_cons]
      exact f1.append ⟨v, [], o1, [], rfl, h2, ⟨rfl, rfl⟩, rfl⟩
    · rw [h4, List.append_nil]
      exact (List.Perm.append_right _ f2).trans List.perm_append_comm
theorem ds_appX (ho : DP X o to i (pNm i)) (h : DX X e te f) (hb : attributeBase o "append" X.env (eval o X.env) = eval o X.env := by rfl)
    (hse : starEach [e] X.env = (false, eval e X.env) :: starEach [] X.env := by rfl)
    (hfew : ((backTo cpos (starEach [e] X.env)).all (fun x => !x.1) && (backToKw cpos (keywordEach [] X.env)).all (fun x => x.1.isSome)
      && decide ([e].length + ([] : List Keyword).length + (if ([] : List Keyword).isEmpty then 0 else 1) < 30)) = true := by rfl)
    (hline : (apos.endLine == cpos.line) = true := by rfl)
    (hs : swapsWith (.Call (.Attribute o "append" apos) [e] [] cpos) none pos.line X.env = pure false := by rfl) :
    DS X (.Expr (.Call (.Attribute o "append" apos) [e] [] cpos) pos) (tDrop (tBM X.K "list" rAppend to (tCons te tNil))) (sAppP i (pNm i) f) [] := by
  refine ⟨ps_expr (pe_bm PySem.F.plainAttrs_list PySem.F.slot_list_append PySem.F.type_list_append mt_append ho.pe (pa_cons h.pe pa_nil hse) hb hfew hline hse rfl) hs, ?_⟩
  intro G0 H0 H ts vs env σ fl env' S g D q
  obtain ⟨⟨P, e1⟩, g1, g2⟩ := obind g
  have hP : P = [] := by
    unfold pNm at g1
    split at g1
    · cases g1; rfl
    · cases g1
  subst hP
  obtain ⟨t0, g3, g4⟩ := obind g2
  dsimp only at g4
  split at g4
  · rename_i us0 hu0
    obtain ⟨⟨y, e2⟩, g5, g6⟩ := obind g4
    obtain ⟨t, g7, g8⟩ := obind g6
    dsimp only at g8
    split at g8
    · rename_i us hu
      split at g8
      · rename_i hl
        cases g8
        refine ho.ok _ _ _ _ _ _ _ _ _ _ S g1 _ fun v w H1 s1 S1 hv hc => ?_
        obtain ⟨tt0, k1, k2⟩ := atP_eq g3
        obtain ⟨G, o1, r, sG⟩ := S1.at' k1 k2 hv hc
        have r := r.unb
        rw [hu0] at r
        obtain ⟨a, xs0, o', h1, h2, _⟩ := r
        subst h1
        refine ⟨.inl ⟨rfl, xs0, .inl (.inl h2)⟩, ?_⟩
        refine h.ok _ _ _ _ _ _ _ _ _ S1 g5 _ fun x H2 S2 => ?_
        obtain ⟨tt, k3, k4⟩ := atP_eq g7
        obtain ⟨G2, p1, p2, r1, r2, nd, sG2, fr, wr⟩ := OkS.wr (es := [y]) (ws := [x]) S2 rfl k3 k4 hv (show Ch H2 [] v (.ref a) from hc)
        have ru := r1.unb
        rw [hu] at ru
        obtain ⟨a', xs, o2, h1', h2', h3', h4'⟩ := ru
        cases h1'
        subst h4'
        have nd' : (a :: (o2 ++ p2)).Nodup := nd
        have na : a ∉ o2 ++ p2 := (List.nodup_cons.mp nd').1
        refine ⟨a, xs, x, rfl, rfl, h2', by rw [h3'.len, sizeLine_eq]; omega, ?_⟩
        have r3 := (h3'.append r2).mono (Same.refl G2) (H' := upd H2 a (.lst (xs ++ [x]))) _ (wN na)
        have S3 := wr a (.lst (xs ++ [x])) (reb t (.lst (us ++ [y]))) [] [] (a :: (o2 ++ p2)) [] [] (by simp) (r1.reb ⟨a, _, _, rfl, upd_same, r3, rfl⟩) ⟨rfl, rfl⟩ (by simp)
        rw [← putP_eq k3] at S3
        exact q _ _ S3 .rfl'
      · cases g8
    · cases g8
  · cases g4
end
end DL
set_option Elab.async false
set_option linter.all false
set_option maxRecDepth 100000
namespace DL
open PySem PySem.Spec PyProof.Rows L2
variable {env e : Env} {i j n k : Nat} {t u : T} {ts us : List T} {d a b : D} {ds es : List D} {fa fb fc f fk fx : EF} {r : AF} {F1 F2 F : SF} {G : GF} {z w : Int} {P : List Stp} {fo : PF} {ky : Key} {kvs : List (Key × T)} {nm fn : Str} {fs : List (Str × T)} {ad : Addr} {kd : List (Key × D)}
def kPN (env : Env) : Option (Option T) → Option (List Stp × Env)
  | some (some _) => some ([], env)
  | _ => none
def kAtP (P : List Stp) : Option (Option T) → Option T
  | some (some t) => getP P t
  | _ => none
def kPutP (env : Env) (i : Nat) (P : List Stp) (u : T) : Option (Option T) → Env
  | some (some t) => env.set i (some (setP P t u))
  | _ => env
def kSP (s : Stp) (P : List Stp) (t u : T) : Option T → T
  | some c => reb t (setS s (unb t) (setP P c u))
  | none => t
def kPF3 (P : List Stp) (f : Str) (e : Env) (_ : T) : List Stp × Env := (P ++ [.fld f], e)
def kPF2 (n f : Str) (P : List Stp) (e : Env) (t : T) : Option (List Stp × Env) := match unb t with
  | .obj m fs => if m = n then (valT fs f).map (kPF3 P f e) else none
  | _ => none
def kPF1 (n f : Str) (i : Nat) (r : List Stp × Env) : Option (List Stp × Env) := (atP r.2 i r.1).bind (kPF2 n f r.1 r.2)
def kPK4 (P : List Stp) (e : Env) (k : Key) (_ : T) : List Stp × Env := (P ++ [.key k], e)
def kPK3 (P : List Stp) (e : Env) (k : Key) (t : T) : Option (List Stp × Env) := match unb t with
  | .dic kvs => (valT kvs k).map (kPK4 P e k)
  | _ => none
def kPK2 (i : Nat) (P : List Stp) (e : Env) (k : Key) : Option (List Stp × Env) := (atP e i P).bind (kPK3 P e k)
def kPK1 (i : Nat) (P : List Stp) (s : T × Env) : Option (List Stp × Env) := (keyT s.1).bind (kPK2 i P s.2)
def kPK0 (i : Nat) (fk : EF) (r : List Stp × Env) : Option (List Stp × Env) := (fk r.2).bind (kPK1 i r.1)
def kPI5 (s : Stp) (P : List Stp) (e : Env) (_ : T) : List Stp × Env := (P ++ [s], e)
def kPI4 (tp : Bool) (P : List Stp) (e : Env) (ts : List T) (j : Nat) : Option (List Stp × Env) := (ts[j]?).map (kPI5 (if tp then .it j else .ix j) P e)
def kPI3 (P : List Stp) (e : Env) (z : Int) (t : T) : Option (List Stp × Env) := match unb t with
  | .lst ts => (ixN ts.length z).bind (kPI4 false P e ts)
  | .tup ts => (ixN ts.length z).bind (kPI4 true P e ts)
  | _ => none
def kPI2 (i : Nat) (P : List Stp) (s : T × Env) : Option (List Stp × Env) := match s.1 with
  | .p (.int z) => (atP s.2 i P).bind (kPI3 P s.2 z)
  | _ => none
def kPI1 (i : Nat) (fk : EF) (r : List Stp × Env) : Option (List Stp × Env) := (fk r.2).bind (kPI2 i r.1)
def kFl (n f : Str) (r : T × Env) : Option (T × Env) := (valF n f (unb r.1)).map (kT2 r.2)
def kDk3 (t : T) (e : Env) (k : Key) : Option (T × Env) := (valK k (unb t)).map (kT2 e)
def kDk2 (t : T) (s : T × Env) : Option (T × Env) := (keyT s.1).bind (kDk3 t s.2)
def kDk1 (fk : EF) (r : T × Env) : Option (T × Env) := (fk r.2).bind (kDk2 r.1)
def kAp4 (i : Nat) (P : List Stp) (x : T) (e : Env) (t : T) : Option (Fl × Env) := match unb t with
  | .lst us => if us.length < 16000000 then some (.nx, putP e i P (reb t (.lst (us ++ [x])))) else none
  | _ => none
def kAp3 (i : Nat) (P : List Stp) (s : T × Env) : Option (Fl × Env) := (atP s.2 i P).bind (kAp4 i P s.1 s.2)
def kAp2 (i : Nat) (f : EF) (P : List Stp) (e : Env) (t : T) : Option (Fl × Env) := match unb t with
  | .lst _ => (f e).bind (kAp3 i P)
  | _ => none
def kAp1 (i : Nat) (f : EF) (r : List Stp × Env) : Option (Fl × Env) := (atP r.2 i r.1).bind (kAp2 i f r.1 r.2)
def kEx4 (i : Nat) (P : List Stp) (us2 : List T) (e : Env) (t : T) : Option (Fl × Env) := match unb t with
  | .lst us => if us.length + us2.length < 16000000 then some (.nx, putP e i P (reb t (.lst (us ++ us2)))) else none
  | _ => none
def kEx3 (i : Nat) (P : List Stp) (s : T × Env) : Option (Fl × Env) := match s.1 with
  | .lst us2 => (atP s.2 i P).bind (kEx4 i P us2 s.2)
  | _ => none
def kEx2 (i : Nat) (f : EF) (P : List Stp) (e : Env) (t : T) : Option (Fl × Env) := match unb t with
  | .lst _ => (f e).bind (kEx3 i P)
  | _ => none
def kEx1 (i : Nat) (f : EF) (r : List Stp × Env) : Option (Fl × Env) := (atP r.2 i r.1).bind (kEx2 i f r.1 r.2)
def kRv2 (i : Nat) (P : List Stp) (e : Env) (t : T) : Option (Fl × Env) := match unb t with
  | .lst us => some (.nx, putP e i P (reb t (.lst us.reverse)))
  | _ => none
def kRv1 (i : Nat) (r : List Stp × Env) : Option (Fl × Env) := (atP r.2 i r.1).bind (kRv2 i r.1 r.2)
def kPp5 (i : Nat) (x : T) (P : List Stp) (e : Env) (k : Key) (t : T) : Option (Fl × Env) := match unb t with
  | .dic kvs => if kvs.length < 16000000 ∧ okPut kvs k x = true then some (.nx, putP e i P (reb t (.dic (putT kvs k x)))) else none
  | _ => none
def kPp4 (i : Nat) (x : T) (P : List Stp) (e : Env) (k : Key) : Option (Fl × Env) := (atP e i P).bind (kPp5 i x P e k)
def kPp3 (i : Nat) (x : T) (P : List Stp) (s : T × Env) : Option (Fl × Env) := (keyT s.1).bind (kPp4 i x P s.2)
def kPp2 (i : Nat) (fk : EF) (x : T) (p : List Stp × Env) : Option (Fl × Env) := (fk p.2).bind (kPp3 i x p.1)
def kPp1 (i : Nat) (fo : PF) (fk : EF) (r : T × Env) : Option (Fl × Env) := (fo r.2).bind (kPp2 i fk r.1)
def kFp3 (i : Nat) (n a : Str) (x : T) (P : List Stp) (e : Env) (t : T) : Option (Fl × Env) := match unb t with
  | .obj m fs => if m = n ∧ fs.length < 900 then some (.nx, putP e i P (reb t (.obj m (putFT fs a x)))) else none
  | _ => none
def kFp2 (i : Nat) (n a : Str) (x : T) (p : List Stp × Env) : Option (Fl × Env) := (atP p.2 i p.1).bind (kFp3 i n a x p.1 p.2)
def kFp1 (i : Nat) (n a : Str) (fo : PF) (r : T × Env) : Option (Fl × Env) := (fo r.2).bind (kFp2 i n a r.1)
def kPo7 (i : Nat) (P : List Stp) (x : T) (e : Env) (k : Key) (t : T) (kvs : List (Key × T)) : Option T → T × Env
  | some u => (u, putP e i P (reb t (.dic (dropT kvs k))))
  | none => (x, e)
def kPo6 (i : Nat) (P : List Stp) (x : T) (e : Env) (k : Key) (t : T) : Option (T × Env) := match unb t with
  | .dic kvs => some (kPo7 i P x e k t kvs (valT kvs k))
  | _ => none
def kPo5 (i : Nat) (P : List Stp) (x : T) (e : Env) (k : Key) : Option (T × Env) := (atP e i P).bind (kPo6 i P x e k)
def kPo4 (i : Nat) (P : List Stp) (u : T) (x : T × Env) : Option (T × Env) := (keyT u).bind (kPo5 i P x.1 x.2)
def kPo3 (i : Nat) (fx : EF) (P : List Stp) (s : T × Env) : Option (T × Env) := (fx s.2).bind (kPo4 i P s.1)
def kPo2 (i : Nat) (fk fx : EF) (P : List Stp) (e : Env) (t : T) : Option (T × Env) := match unb t with
  | .dic _ => (fk e).bind (kPo3 i fx P)
  | _ => none
def kPo1 (i : Nat) (fk fx : EF) (r : List Stp × Env) : Option (T × Env) := (atP r.2 i r.1).bind (kPo2 i fk fx r.1 r.2)
variable {φ : T → List D → Option (T × T)}
def kCM5 (i : Nat) (P : List Stp) (e : Env) (z : T × T) : T × Env := (z.1, putP e i P z.2)
def kCM4 (φ : T → List D → Option (T × T)) (i : Nat) (P : List Stp) (e : Env) (ds : List D) (t0 : T) : Option (T × Env) := (φ t0 ds).map (kCM5 i P e)
def kCM3 (φ : T → List D → Option (T × T)) (i : Nat) (P : List Stp) (e : Env) (ds : List D) : Option (T × Env) := (atP e i P).bind (kCM4 φ i P e ds)
def kCM2 (φ : T → List D → Option (T × T)) (i : Nat) (P : List Stp) (s : List T × Env) : Option (T × Env) := (allP s.1).bind (kCM3 φ i P s.2)
def kCM1 (φ : T → List D → Option (T × T)) (i : Nat) (fr : AF) (x : List Stp × Env) : Option (T × Env) := (fr x.2).bind (kCM2 φ i x.1)
def kRM2 (fl : Fl) : Option (Option T) → Option (T × T)
  | some (some t') => match fl with
    | .rt t => some (t, t')
    | .nx => some (.p .non, t')
    | _ => none
  | _ => none
def kRM (r : Fl × Env) : Option (T × T) := kRM2 r.1 r.2[0]?
def kKl (e : Env) (ks : List Key) : T × Env := (.lst ((ks.map kD).map T.p), e)
def kKL (r : T × Env) : Option (T × Env) := (keysT (unb r.1)).map (kKl r.2)
def kVl (e : Env) (kd : List (Key × D)) : T × Env := (.lst ((kd.map (·.2)).map T.p), e)
def kVL (r : T × Env) : Option (T × Env) := (dicT (unb r.1)).map (kVl r.2)
def kDC2 (e : Env) (kd : List (Key × D)) : T × Env := (.dic (pairsT kd), e)
def kDC (r : T × Env) : Option (T × Env) := (dicT (unb r.1)).map (kDC2 r.2)
def kDP3 (e : Env) (kd : List (Key × D)) : T × Env := (.dic (pairsT (mergeD [] kd)), e)
def kDP2 (t : T) (e : Env) (ds : List D) : Option (T × Env) := if isLT t = true then (pairsD ds).map (kDP3 e) else none
def kDP (r : T × Env) : Option (T × Env) := (itemsT r.1).bind (kDP2 r.1 r.2)
def kDc (mk : Key × D → D) (r : T × Env) : Option (List D × Env) := match r.1 with
  | .p (.dic kvs) => some (kvs.map mk, r.2)
  | _ => none
end DL
set_option Elab.async false
set_option linter.all false
set_option maxRecDepth 100000
set_option maxHeartbeats 1000000
namespace DL
open PySem PySem.Spec PyProof.Rows L2
section
variable {K K' : PySem.W.Frag}
theorem Less.ns (L : Less K K') {ns : Addr} {name : Str} {r : Option Value} (h : PySem.W.nsIn K ns name = some r) : PySem.W.nsIn K' ns name = some r := by
  unfold PySem.W.nsIn at h ⊢
  split at h
  · rename_i e
    rw [L _ _ e fun ⟨_, _, _, e⟩ => nomatch e]
    exact h
  · cases h
theorem Less.own (L : Less K K') {name : Str} {c : Value} {r : Option Value} (h : PySem.W.ownIn K name c = some r) : PySem.W.ownIn K' name c = some r := by
  cases c with
  | ref a =>
    unfold PySem.W.ownIn at h ⊢
    dsimp only at h ⊢
    split at h
    · rename_i e
      rw [L _ _ e fun ⟨_, _, _, e⟩ => nomatch e]
      exact L.ns h
    · cases h
  | _ => exact h
theorem Less.along (L : Less K K') {name : Str} : ∀ {cs : List Value} {r : Option Value}, PySem.W.alongIn K name cs = some r → PySem.W.alongIn K' name cs = some r
  | [], _, h => h
  | c :: cs, r, h => by
    unfold PySem.W.alongIn at h ⊢
    split at h
    · rename_i e
      rw [L.own e]; exact h
    · rename_i e
      rw [L.own e]; exact Less.along L h
    · cases h
theorem Less.find (L : Less K K') {t : Value} {name : Str} {r : Option Value} (h : PySem.W.findIn K t name = some r) : PySem.W.findIn K' t name = some r := by
  cases t with
  | ref a =>
    unfold PySem.W.findIn at h ⊢
    dsimp only at h ⊢
    split at h
    · rename_i e
      rw [L _ _ e fun ⟨_, _, _, e⟩ => nomatch e]
      exact L.along h
    · cases h
  | _ => exact h
theorem Less.cls (L : Less K K') {C : Addr} {cd : ClassData} (h : PySem.W.clsIn K C = some cd) : PySem.W.clsIn K' C = some cd := by
  unfold PySem.W.clsIn at h ⊢
  split at h
  · rename_i e
    rw [L _ _ e fun ⟨_, _, _, e⟩ => nomatch e]
    exact h
  · cases h
theorem Less.clsAny (L : Less K K') {C : Addr} {p : ClassData → Bool} (h : (PySem.W.clsIn K C).any p = true) : (PySem.W.clsIn K' C).any p = true := by
  cases e : PySem.W.clsIn K C with
  | none => rw [e] at h; cases h
  | some cd => rw [e] at h; rw [L.cls e]; exact h
theorem Less.Cls (L : Less K K') {C : Addr} (c : L2.Cls K C) : L2.Cls K' C := by
  obtain ⟨pg, hd, po, sa⟩ := c
  refine ⟨?_, L.clsAny hd, L.clsAny po, L.find sa⟩
  unfold PySem.W.plainGet at pg ⊢
  rw [Bool.and_eq_true, beq_iff_eq, beq_iff_eq] at pg ⊢
  exact ⟨L.find pg.1, L.find pg.2⟩
theorem Less.NoAttr (L : Less K K') {C : Addr} {f : Str} (n : L2.NoAttr K C f) : L2.NoAttr K' C f := L.find n
theorem Less.ClsN (L : Less K K') {n : Str} {C : Addr} (h : DL.ClsN K n C) : DL.ClsN K' n C := L.ns h
theorem Less.sub (L : Less K K') {t b : Value} {r : Bool} (h : PySem.W.subIn K t b = some r) : PySem.W.subIn K' t b = some r := by
  cases t with
  | ref C =>
    have h : (PySem.W.clsIn K C).bind _ = some r := h
    obtain ⟨cd, h1, h2⟩ := Option.bind_eq_some_iff.mp h
    show (PySem.W.clsIn K' C).bind _ = some r
    rw [L.cls h1]
    exact h2
  | _ => exact h
end
end DL
set_option Elab.async false
set_option linter.all false
set_option maxRecDepth 100000
set_option maxHeartbeats 1000000
namespace DL
open PySem PySem.Spec PyProof.Rows L2
section
variable {K : PySem.W.Frag} {G0 H0 H : Hp} {W : List (T × V)} {ts : List T} {vs : List V} {env : Env} {σ : St}
end
def isR : T → Bool
  | .lst _ => true
  | .dic _ => true
  | .dit _ => true
  | .obj _ _ => true
  | _ => false
theorem isR_ref {K : PySem.W.Frag} {G H : Hp} {u : T} {w : V} {o : List Addr} (h : isR u = true) (r : Rp K G H u w o) : ∃ a, w = .ref a := by
  cases u with
  | lst _ => obtain ⟨a, _, _, e, _⟩ := r; exact ⟨a, e⟩
  | dic _ => obtain ⟨a, _, _, e, _⟩ := r; exact ⟨a, e⟩
  | dit _ => obtain ⟨a, _, _, e, _⟩ := r; exact ⟨a, e⟩
  | obj _ _ => obtain ⟨a, _, _, _, _, e, _⟩ := r; exact ⟨a, e⟩
  | _ => cases h
def unbP (env : Env) (i : Nat) (P : List Stp) : Env := match atP env i P with
  | some t => putP env i P (unb t)
  | none => env
open Classical in
noncomputable def sBox (i : Nat) (fo : PF) (F : SF) : SF := fun env => (fo env).bind fun r => (atP env i r.1).bind fun u => if isR u = true then
  (if h : ∃ z, ∀ a, ((F (putP env i r.1 (.box a u))).map fun s => (s.1, unbP s.2 i r.1)) = some z then some h.choose else none) else none
section
variable {X : Cx} {e o k : Expr} {te to tk : TE} {f fk : EF} {fo : PF} {i : Nat} {pos cpos apos ipos tpos : Pos}
def sAppB (i : Nat) (fo : PF) (f : EF) : SF := fun env => (fo env).bind fun r => (atP r.2 i r.1).bind fun t0 => match t0 with
  | .box a (.lst _) => (f r.2).bind fun s => (atP s.2 i r.1).bind fun t => match t with
    | .box b (.lst us) => if b = a ∧ us.length < 16000000 then some (.nx, putP s.2 i r.1 (.box b (.lst (us ++ [s.1])))) else none
    | _ => none
  | _ => none
def sAugB (hh : Int → Int → Int) (i : Nat) (fo : PF) (fk f : EF) : SF := fun env => (fo env).bind fun r => (fk r.2).bind fun s => (keyT s.1).bind fun k => (atP s.2 i r.1).bind fun t0 => match t0 with
  | .box a (.dic kvs0) => (valT kvs0 k).bind fun u => (asI u).bind fun x0 => (f s.2).bind fun y => (asI y.1).bind fun y0 => (atP y.2 i r.1).bind fun t1 => match t1 with
    | .box b (.dic kvs) => if b = a ∧ kvs.length < 16000000 then some (.nx, putP y.2 i r.1 (.box b (.dic (putT kvs k (.p (.int (hh x0 y0))))))) else none
    | _ => none
  | _ => none
end
end DL
set_option Elab.async false
set_option linter.all false
set_option maxRecDepth 100000
set_option maxHeartbeats 1000000
namespace DL
open PySem PySem.Spec PyProof.Rows L2
section
variable {K : PySem.W.Frag} {G0 H0 H : Hp} {W : List (T × V)} {ts : List T} {vs : List V} {env : Env} {σ : St} {t : T} {v : V}
def RpKdt (K : PySem.W.Frag) (G : Hp) (kvs : List (List Key × D)) (xs : List (List Key × V)) : Prop := RpKt K G kvs xs
def pairsTt (kvs : List (List Key × D)) : List (List Key × T) := kvs.map fun kv => (kv.1, T.p kv.2)
theorem rpTt_of {G : Hp} : ∀ {kvs : List (List Key × D)} {xs : List (List Key × V)} {o : List Addr}, RpTt K G H (pairsTt kvs) xs o → RpKt K G kvs xs ∧ o = []
  | [], _, _, h => h
  | (k, d) :: r, _, _, ⟨v, r', o1, o2, h1, h2, h3, h4⟩ => by
    obtain ⟨g1, g2⟩ := rpTt_of h3
    exact ⟨⟨v, r', h1, h2.1, g1⟩, by rw [h4, h2.2, g2]; rfl⟩
def putDt (kvs : List (List Key × D)) (k : List Key) (d : D) : List (List Key × D) := if (kvs.any fun kv => decide (kv.1 = k)) = true then kvs.map (fun kv => if kv.1 = k then (kv.1, d) else kv) else kvs ++ [(k, d)]
def valDt (kvs : List (List Key × D)) (k : List Key) : Option D := (kvs.find? fun kv => decide (kv.1 = k)).map (·.2)
theorem RpKt.any {G : Hp} (k : List Key) : ∀ {kvs : List (List Key × D)} {xs : List (List Key × V)}, RpKt K G kvs xs → (xs.any fun kv => decide (kv.1 = k)) = kvs.any fun kv => decide (kv.1 = k)
  | [], xs, h => by rw [show xs = [] from h]; rfl
  | (j, d) :: r, _, ⟨v, r', h1, h2, h3⟩ => by rw [h1, List.any_cons, List.any_cons, RpKt.any k h3]
theorem RpKt.upd {G : Hp} (k : List Key) {d : D} {v : V} (hv : RpD K G d v) : ∀ {kvs : List (List Key × D)} {xs : List (List Key × V)}, RpKt K G kvs xs → RpKt K G (kvs.map (fun kv => if kv.1 = k then (kv.1, d) else kv)) (xs.map (fun kv => if kv.1 = k then (kv.1, v) else kv))
  | [], xs, h => by rw [show xs = [] from h]; exact rfl
  | (j, e) :: r, _, ⟨w, r', h1, h2, h3⟩ => by
    subst h1
    rw [List.map_cons, List.map_cons]
    have ih := RpKt.upd k hv h3
    by_cases c : j = k
    · rw [if_pos c, if_pos c]; exact ⟨v, _, rfl, hv, ih⟩
    · rw [if_neg c, if_neg c]; exact ⟨w, _, rfl, h2, ih⟩
theorem RpKt.app {G : Hp} {k : List Key} {d : D} {v : V} (hv : RpD K G d v) : ∀ {kvs : List (List Key × D)} {xs : List (List Key × V)}, RpKt K G kvs xs → RpKt K G (kvs ++ [(k, d)]) (xs ++ [(k, v)])
  | [], xs, h => by rw [show xs = [] from h]; exact ⟨v, [], rfl, hv, rfl⟩
  | (j, e) :: r, _, ⟨w, r', h1, h2, h3⟩ => by subst h1; exact ⟨w, _, rfl, h2, RpKt.app hv h3⟩
theorem RpKt.put {G : Hp} {k : List Key} {d : D} {v : V} (hv : RpD K G d v) {kvs : List (List Key × D)} {xs : List (List Key × V)} (h : RpKt K G kvs xs) : RpKt K G (putDt kvs k d) (putK xs k v) := by
  unfold putDt putK
  rw [h.any k]
  split
  · exact h.upd k hv
  · exact h.app hv
theorem RpKt.val {G : Hp} (k : List Key) : ∀ {kvs : List (List Key × D)} {xs : List (List Key × V)}, RpKt K G kvs xs → (valDt kvs k = none → valV xs k = none) ∧ ∀ d, valDt kvs k = some d → ∃ v, valV xs k = some v ∧ RpD K G d v
  | [], xs, h => by rw [show xs = [] from h]; exact ⟨fun _ => rfl, fun d h => (nomatch h)⟩
  | (j, e) :: r, _, ⟨w, r', h1, h2, h3⟩ => by
    subst h1
    by_cases c : j = k
    · have e1 : valDt ((j, e) :: r) k = some e := by simp [valDt, List.find?_cons, c]
      rw [e1, valV_pos (by exact c)]
      exact ⟨fun h => (nomatch h), fun d h => by cases h; exact ⟨w, rfl, h2⟩⟩
    · have e1 : valDt ((j, e) :: r) k = valDt r k := by simp [valDt, List.find?_cons, c]
      rw [e1, valV_neg (by exact c)]
      exact RpKt.val k h3
theorem RpKt.length {G : Hp} : ∀ {kvs : List (List Key × D)} {xs : List (List Key × V)}, RpKt K G kvs xs → xs.length = kvs.length
  | [], xs, h => by rw [show xs = [] from h]; rfl
  | (j, e) :: r, _, ⟨w, r', h1, h2, h3⟩ => by subst h1; simp [RpKt.length h3]
def frzT : List (List Key × T) → Option (List (List Key × D))
  | [] => some []
  | (k, .p d) :: r => (frzT r).map ((k, d) :: ·)
  | _ :: _ => none
theorem frzT_eq : ∀ {kvs : List (List Key × T)} {ds : List (List Key × D)}, frzT kvs = some ds → kvs = pairsTt ds
  | [], ds, h => by cases h; rfl
  | (k, .p d) :: r, ds, h => by
    obtain ⟨es, h1, h2⟩ := omap (show (frzT r).map ((k, d) :: ·) = some ds from h)
    subst h2
    rw [frzT_eq h1]; rfl
  | (_, .lst _) :: _, _, h => by cases h
  | (_, .tup _) :: _, _, h => by cases h
  | (_, .dit _) :: _, _, h => by cases h
end
def keysL : List D → Option (List Key)
  | [] => some []
  | d :: ds => (keyD d).bind fun k => (keysL ds).map (k :: ·)
def keyTT : T → Option (List Key)
  | .p (.tup ds) => keysL ds
  | _ => none
def eDt : EF := fun env => some (.dit [], env)
def ditT : T → Option (List (List Key × D))
  | .p (.dit kvs) => some kvs
  | .dit kvs => frzT kvs
  | _ => none
theorem St0.dit {K : PySem.W.Frag} {G0 H0 G H : Hp} {W : List (T × V)} {ts : List T} {vs : List V} {env : Env} {σ : St} {ot oe : List Addr} {t : T} {v : V} {ds : List (List Key × D)} (s : St0 K G0 H0 W G H ts vs env σ ot oe) (hq : (t, v) ∈ W) (h : ditT t = some ds) :
    ∃ a xs, v = .ref a ∧ Rd H a (.dT xs) ∧ RpKt K G ds xs := by
  obtain ⟨o, r⟩ := s.vw (t, v) hq
  cases t with
  | p d =>
    cases d with
    | dit kvs =>
      cases h
      obtain ⟨⟨a, xs, e1, e2, e3⟩, _⟩ := r
      exact ⟨a, xs, e1, Same.rd s.gh e2, e3⟩
    | _ => cases h
  | dit kvs =>
    have e := frzT_eq (show frzT kvs = some ds from h)
    subst e
    obtain ⟨a, xs, o', e1, e2, e3, e4⟩ := r
    exact ⟨a, xs, e1, .inl e2, (rpTt_of e3).1⟩
  | _ => cases h
section
variable {X : Cx} {o i x : Expr} {to ti tx : TE} {fo fi fx : EF} {pos apos : Pos}
def eDixT (fo fi : EF) : EF := fun env => (fo env).bind fun r => (fi r.2).bind fun s => (ditT r.1).bind fun ds => (keyTT s.1).bind fun k => (valDt ds k).map fun d => (.p d, s.2)
def eDgetT (fo fi fx : EF) : EF := fun env => (fo env).bind fun r => (fi r.2).bind fun s => (fx s.2).bind fun u => (ditT r.1).bind fun ds => (keyTT s.1).bind fun k => match u.1 with
  | .p z => some (.p ((valDt ds k).getD z), u.2)
  | _ => none
def eDinT (b : Bool) (fi fo : EF) : EF := fun env => (fi env).bind fun s => (fo s.2).bind fun r => (ditT r.1).bind fun ds => (keyTT s.1).bind fun k => some (.p (.bl (if b then (valDt ds k).isSome else !(valDt ds k).isSome)), r.2)
end
section
variable {X : Cx} {e o k : Expr} {te to tk : TE} {f fk : EF} {fo : PF} {i : Nat} {pos ipos : Pos}
def sPutT (i : Nat) (fo : PF) (fk f : EF) : SF := fun env => (f env).bind fun r => (fo r.2).bind fun p => (fk p.2).bind fun s => (keyTT s.1).bind fun k => (atP s.2 i p.1).bind fun t => match r.1 with
  | .p d => match unb t with
    | .dit kvs => (frzT kvs).bind fun kd => if kd.length < 16000000 then some (.nx, putP s.2 i p.1 (reb t (.dit (pairsTt (putDt kd k d))))) else none
    | _ => none
  | _ => none
end
end DL
set_option Elab.async false
set_option linter.all false
set_option maxRecDepth 100000
set_option maxHeartbeats 1000000
namespace DL
open PySem PySem.Spec PyProof.Rows L2
def eMvP (i : Nat) (fo : PF) : EF := fun env => (fo env).bind fun r => (atP r.2 i r.1).map fun u => (u, putP r.2 i r.1 (.al 0))
section
variable {X : Cx} {e : Expr} {te : TE} {f : EF} {a b : List Stmt} {t u : TS} {F1 F2 : SF} {sl sl2 : List Nat} {pos : Pos}
def iSq (f : EF) : IF := fun env => (f env).bind fun r => match r.1 with
  | .p (.lst ds) => some (ds, r.2)
  | .p (.tup ds) => some (ds, r.2)
  | _ => none
def tSq (K : PySem.W.Frag) (te : TE) : TI := fun σ H R => te σ H fun x H1 => ∃ a, x = .ref a ∧ (((∃ xs, SqL K H1 a xs) ∧ R (Itl K a) H1) ∨ ((∃ xs, SqT K H1 a xs) ∧ R (Itt K a) H1))
end
mutual
def cleanD : D → Bool
  | .non => true
  | .bl _ => true
  | .int _ => true
  | .str _ => true
  | .tup ds => cleanDs ds
  | _ => false
def cleanDs : List D → Bool
  | [] => true
  | d :: ds => cleanD d && cleanDs ds
end
mutual
def cleanV : T → Bool
  | .p d => cleanD d
  | .lst ts => cleanVs ts
  | .tup ts => cleanVs ts
  | _ => false
def cleanVs : List T → Bool
  | [] => true
  | t :: ts => cleanV t && cleanVs ts
end
section
variable {K : PySem.W.Frag} {G G' H : Hp}
mutual
theorem RpD.cleanV (e : ∀ a xs, G a = some (.tup xs) → G' a = some (.tup xs)) : ∀ (d : D) {v : V}, cleanD d = true → RpD K G d v → RpD K G' d v
  | .non, _, _, h => h
  | .bl _, _, _, h => h
  | .int _, _, _, h => h
  | .str _, _, _, h => h
  | .tup ds, _, c, ⟨a, vs, h1, h2, h3⟩ => ⟨a, vs, h1, e _ _ h2, RpDs.cleanV e ds (by unfold cleanD at c; exact c) h3⟩
  | .lst _, _, c, _ => by unfold cleanD at c; cases c
  | .dic _, _, c, _ => by unfold cleanD at c; cases c
  | .dit _, _, c, _ => by unfold cleanD at c; cases c
  | .obj _ _, _, c, _ => by unfold cleanD at c; cases c
  | .al _, _, c, _ => by unfold cleanD at c; cases c
theorem RpDs.cleanV (e : ∀ a xs, G a = some (.tup xs) → G' a = some (.tup xs)) : ∀ (ds : List D) {vs : List V}, cleanDs ds = true → RpDs K G ds vs → RpDs K G' ds vs
  | [], _, _, h => h
  | d :: ds, _, c, ⟨v, r, h1, h2, h3⟩ => by
    unfold cleanDs at c
    rw [Bool.and_eq_true] at c
    exact ⟨v, r, h1, RpD.cleanV e d c.1 h2, RpDs.cleanV e ds c.2 h3⟩
end
mutual
theorem Rp.cleanV (e : ∀ a xs, G a = some (.tup xs) → G' a = some (.tup xs)) : ∀ (t : T) {v : V} {o : List Addr}, DL.cleanV t = true → Rp K G H t v o → Rp K G' H t v o
  | .p d, _, _, c, ⟨h1, h2⟩ => ⟨RpD.cleanV e d (by unfold DL.cleanV at c; exact c) h1, h2⟩
  | .lst ts, _, _, c, ⟨a, vs, o', h1, h2, h3, h4⟩ => ⟨a, vs, o', h1, h2, RpTs.cleanV e ts (by unfold DL.cleanV at c; exact c) h3, h4⟩
  | .tup ts, _, _, c, ⟨a, vs, h1, h2, h3⟩ => ⟨a, vs, h1, e _ _ h2, RpTs.cleanV e ts (by unfold DL.cleanV at c; exact c) h3⟩
  | .dic _, _, _, c, _ => by unfold DL.cleanV at c; cases c
  | .dit _, _, _, c, _ => by unfold DL.cleanV at c; cases c
  | .obj _ _, _, _, c, _ => by unfold DL.cleanV at c; cases c
  | .box _ _, _, _, c, _ => by unfold DL.cleanV at c; cases c
  | .al _, _, _, c, _ => by unfold DL.cleanV at c; cases c
theorem RpTs.cleanV (e : ∀ a xs, G a = some (.tup xs) → G' a = some (.tup xs)) : ∀ (ts : List T) {vs : List V} {o : List Addr}, cleanVs ts = true → RpTs K G H ts vs o → RpTs K G' H ts vs o
  | [], _, _, _, h => h
  | t :: ts, _, _, c, ⟨v, r, o1, o2, h1, h2, h3, h4⟩ => by
    unfold cleanVs at c
    rw [Bool.and_eq_true] at c
    exact ⟨v, r, o1, o2, h1, Rp.cleanV e t c.1 h2, RpTs.cleanV e ts c.2 h3, h4⟩
end
end
def eCallC (φ : List D → Option T) (fa : AF) : EF := fun env => (fa env).bind fun r => (φ (T.toDs r.1)).bind fun t => if cleanV t = true then some (t, r.2) else none
def plusT (G H : Hp) : Hp := fun a => match H a with
  | some (.tup xs) => some (.tup xs)
  | _ => G a
theorem plusT_tup {G H : Hp} {a : Addr} {xs : List V} (h : H a = some (.tup xs)) : plusT G H a = some (.tup xs) := by unfold plusT; rw [h]
theorem plusT_cases {G H : Hp} {a : Addr} {u : HO} (h : plusT G H a = some u) : G a = some u ∨ ∃ xs, u = .tup xs ∧ H a = some (.tup xs) := by
  unfold plusT at h
  split at h
  · rename_i xs e; cases h; exact .inr ⟨xs, rfl, e⟩
  · exact .inl h
theorem plusT_ne {G H : Hp} {a : Addr} (h : ∀ xs, H a ≠ some (.tup xs)) : plusT G H a = G a := by
  unfold plusT
  split
  · rename_i xs e; exact absurd e (h xs)
  · rfl
section
variable {X : Cx} {i o : Expr} {ti to : TE} {fi fo : EF} {pos : Pos}
theorem dc_din (hu : X.A.units + 1 < cLine) (hi : DV X i ti fi) (ho : DV X o to fo) (hm : behindInMarks .In o = false := by with_unfolding_all rfl) : DC X (.Compare i [.In] [o] pos) (tTest (tDIn ti to)) (cT (eDin true fi fo)) := ⟨pt_cmp (pc_din hu hi.pe ho.pe) hm, (ev_din true rfl ho.ok hi.ok).test⟩
end
end DL
set_option Elab.async false
set_option linter.all false
set_option maxRecDepth 100000
set_option maxHeartbeats 1000000
namespace DL
open PySem PySem.Spec PyProof.Rows L2
section
variable {K : PySem.W.Frag} {G0 H0 H : Hp} {W : List (T × V)} {ts : List T} {vs : List V} {env : Env} {σ : St} {i : Nat} {P : List Stp} {u : T} {v w : V}
theorem OkS.fill {u' : T} (S : OkS K G0 H0 [] H (u' :: ts) (w :: vs) env σ) (h : atP env i P = some u) (hv : σ[i]? = some (some v)) (hc : Ch H P v w) : OkS K G0 H0 [] H ts vs (putP env i P u') σ := by
  obtain ⟨t, h1, h2⟩ := atP_eq h
  obtain ⟨G, ot, oe, s⟩ := S
  obtain ⟨w0, r0, oa, ob, k1, k2, k3, k4⟩ := s.tmp
  cases k1
  subst k4
  obtain ⟨v', oA, oB, e1, e2, e3, e4⟩ := s.env.take h1
  rw [hv] at e1; cases e1
  obtain ⟨w', o1, o2, f1, f2, f3, f4⟩ := e2.foc s.gh h2
  have := f1.det hc
  subst this
  rw [putP_eq h1]
  obtain ⟨o', q1, q2⟩ := f4 (G' := G) (H' := H) (Same.refl _) (fun _ _ => rfl) k2
  have hl : i < env.length := (List.getElem?_eq_some_iff.mp h1).1
  obtain ⟨o8, g1, g2⟩ := e3.put (i := i) (by simpa using hl) (fun x z => by rw [List.getElem?_set_self hl] at z; cases z) q1
  rw [List.set_set, set_back hv] at g1
  have pm : o8.Perm (oa ++ (o2 ++ oB)) := g2.trans (by rw [← List.append_assoc]; exact List.Perm.append_right _ q2)
  have pm2 : ((ob ++ o8) ++ o1).Perm ((oa ++ ob) ++ oe) := by
    refine List.Perm.trans (List.Perm.append_right _ (List.Perm.append_left _ pm)) ?_
    refine List.Perm.trans ?_ (List.Perm.append_left _ (e4.trans (List.Perm.append_right _ f3))).symm
    exact List.perm_iff_count.mpr fun x => by simp only [List.count_append]; omega
  have nd2 := pm2.nodup_iff.mpr s.nd
  exact ⟨G, ob, o8, k3, g1, (List.nodup_append.mp nd2).1, fun a ha => s.fr a (pm2.mem_iff.mp (List.mem_append_left _ ha)), s.g0, s.gh, s.h0, s.nw, fun q hq => by cases hq⟩
end
def backP (i j : Nat) (P : List Stp) (a : Addr) (s : Fl × Env) : Option (Fl × Env) := match s.2[j]? with
  | some (some u') => (match atP (s.2.set j none) i P with
    | some (.al b) => if b = a + 1 then some (s.1, putP (s.2.set j none) i P u') else none
    | _ => none)
  | _ => none
open Classical in
noncomputable def sAl (j i : Nat) (fo : PF) (F : SF) : SF := fun env => (fo env).bind fun r => (atP r.2 i r.1).bind fun u => if isR u = true ∧ j < r.2.length then
  (if h : ∃ z, ∀ a : Addr, ((F ((putP r.2 i r.1 (.al (a + 1))).set j (some u))).bind (backP i j r.1 a)) = some z then some h.choose else none) else none
end DL
set_option Elab.async false
set_option linter.all false
set_option maxRecDepth 100000
set_option maxHeartbeats 1000000
namespace DL
open PySem PySem.Spec PyProof.Rows L2
def isRT : T → Bool
  | .tup _ => true
  | t => isR t
theorem isRT_ref {K : PySem.W.Frag} {G H : Hp} {u : T} {w : V} {o : List Addr} (h : isRT u = true) (r : Rp K G H u w o) : ∃ a, w = .ref a := by
  cases u with
  | tup _ => obtain ⟨a, _, e, _⟩ := r; exact ⟨a, e⟩
  | lst _ => exact isR_ref rfl r
  | dic _ => exact isR_ref rfl r
  | dit _ => exact isR_ref rfl r
  | obj _ _ => exact isR_ref rfl r
  | _ => cases h
section
variable {K : PySem.W.Frag} {G0 H0 H : Hp} {ts pre post : List T} {vs : List V} {env : Env} {σ : St} {t : T} {v : V}
theorem OkS.hole (S : OkS K G0 H0 [] H (.lst (pre ++ t :: post) :: ts) (v :: vs) env σ) (ht : isRT t = true) :
    ∃ a xs b, v = .ref a ∧ H a = some (.lst xs) ∧ xs.length = (pre ++ t :: post).length ∧ xs[pre.length]? = some (.ref b) ∧ OkS K G0 H0 [] H (t :: .lst (pre ++ .al (b + 1) :: post) :: ts) (.ref b :: v :: vs) env σ := by
  obtain ⟨G, ot, oe, s⟩ := S
  obtain ⟨u, r, o1, o2, h1, ⟨a, xs, o', k1, k2, k3, k4⟩, h3, h4⟩ := s.tmp
  cases h1
  subst k1; subst k4; subst h4
  obtain ⟨w, p1, p2, f1, f2, f3, f4⟩ := k3.foc (n := pre.length) (u := t) (by simp)
  obtain ⟨b, rfl⟩ := isRT_ref ht f2
  obtain ⟨q, g1, g2⟩ := f4 (G' := G) (H' := H) (u' := .al (b + 1)) (o1' := []) (Same.refl _) (fun _ _ => rfl) ⟨fun _ => rfl, rfl⟩
  have e1 : (pre ++ t :: post).set pre.length (.al (b + 1)) = pre ++ .al (b + 1) :: post := by rw [List.set_append_right _ _ (Nat.le_refl _)]; simp
  rw [e1] at g1
  have pm : ((p1 ++ (a :: q ++ o2)) ++ oe).Perm ((a :: o' ++ o2) ++ oe) := by
    refine List.Perm.append_right _ ?_
    have h5 : (a :: q ++ o2).Perm (a :: p2 ++ o2) := List.Perm.append_right _ (List.Perm.cons a (by simpa using g2))
    refine (List.Perm.append_left _ h5).trans ?_
    refine List.Perm.trans ?_ (List.Perm.append_right _ (List.Perm.cons a f3.symm))
    exact List.perm_iff_count.mpr fun x => by simp only [List.count_append, List.count_cons]; omega
  exact ⟨a, xs, b, rfl, k2, k3.len, f1, G, p1 ++ (a :: q ++ o2), oe, ⟨_, _, p1, a :: q ++ o2, rfl, f2, ⟨_, _, a :: q, o2, rfl, ⟨a, xs, q, rfl, k2, g1, rfl⟩, h3, rfl⟩, rfl⟩, s.env, pm.nodup_iff.mpr s.nd, fun x hx => s.fr x (pm.mem_iff.mp hx), s.g0, s.gh, s.h0, s.nw, fun q hq => by cases hq⟩
theorem OkS.unhole {b : Addr} (S : OkS K G0 H0 [] H (t :: .lst (pre ++ .al (b + 1) :: post) :: ts) (.ref b :: v :: vs) env σ) : OkS K G0 H0 [] H (.lst (pre ++ t :: post) :: ts) (v :: vs) env σ := by
  obtain ⟨G, ot, oe, s⟩ := S
  obtain ⟨w0, r0, oa, ob, c1, c2, ⟨u, r, o1, o2, h1, ⟨a, xs, o', k1, k2, k3, k4⟩, h3, h4⟩, c4⟩ := s.tmp
  cases c1
  cases h1
  subst k1; subst k4; subst h4; subst c4
  obtain ⟨w, p1, p2, f1, ⟨hw, hp1⟩, f3, f4⟩ := k3.foc (n := pre.length) (u := .al (b + 1)) (by simp)
  have hw : w = .ref b := hw (Nat.succ_ne_zero _)
  subst hw; subst hp1
  obtain ⟨q, g1, g2⟩ := f4 (G' := G) (H' := H) (Same.refl _) (fun _ _ => rfl) c2
  have e1 : (pre ++ T.al (b + 1) :: post).set pre.length t = pre ++ t :: post := by rw [List.set_append_right _ _ (Nat.le_refl _)]; simp
  rw [e1] at g1
  have pm : ((a :: q ++ o2) ++ oe).Perm ((oa ++ (a :: o' ++ o2)) ++ oe) := by
    refine List.Perm.append_right _ ?_
    have h5 : (a :: q ++ o2).Perm (a :: (oa ++ p2) ++ o2) := List.Perm.append_right _ (List.Perm.cons a g2)
    refine h5.trans ?_
    refine List.Perm.trans ?_ (List.Perm.append_left _ (List.Perm.append_right _ (List.Perm.cons a (by simpa using f3.symm))))
    exact List.perm_iff_count.mpr fun x => by simp only [List.count_append, List.count_cons]; omega
  exact ⟨G, a :: q ++ o2, oe, ⟨_, _, a :: q, o2, rfl, ⟨a, xs, q, rfl, k2, g1, rfl⟩, h3, rfl⟩, s.env, pm.nodup_iff.mpr s.nd, fun x hx => s.fr x (pm.mem_iff.mp hx), s.g0, s.gh, s.h0, s.nw, fun q hq => by cases hq⟩
end
def loopP (j : Nat) (body : SF) : List T → List T → Env → Option (Fl × List T × Env)
  | done, [], env => some (.nx, done, env)
  | done, t :: rest, env => if j < env.length ∧ isRT t = true then (body (env.set j (some t))).bind fun r => match r.2[j]? with
    | some (some t') => match r.1 with
      | .nx => loopP j body (done ++ [t']) rest (r.2.set j none)
      | .ct => loopP j body (done ++ [t']) rest (r.2.set j none)
      | .bk => some (.nx, done ++ t' :: rest, r.2.set j none)
      | .rt u => some (.rt u, done ++ t' :: rest, r.2.set j none)
    | _ => none
    else none
def sForP (i j : Nat) (body : SF) : SF := fun env => (atL env i).bind fun us => (loopP j body [] us (env.set i none)).map fun r => (r.1, r.2.2.set i (some (.lst r.2.1)))
theorem OkS.cell {K : PySem.W.Frag} {G0 H0 H : Hp} {us ts : List T} {vs : List V} {v : V} {env : Env} {σ : St} (S : OkS K G0 H0 [] H (.lst us :: ts) (v :: vs) env σ) : ∃ a xs, v = .ref a ∧ H a = some (.lst xs) ∧ xs.length = us.length := by
  obtain ⟨G, ot, oe, s⟩ := S
  obtain ⟨u, r, o1, o2, h1, ⟨a, xs, o', k1, k2, k3, k4⟩, h3, h4⟩ := s.tmp
  cases h1
  exact ⟨a, xs, k1, k2, k3.len⟩
theorem ds_forP {X : Cx} {body : List Stmt} {tb : TS} {F : SF} {pos npos py : Pos} {sl2 : List Nat} (i : Nat) {j : Nat} {x y : Str} (hp : PassesOwn (model X.prog X.w) X.A X.env X.xe) (hc : X.calm = true) (hn : X.N.Nodup) (hy : X.N[j]? = some y) (hyl : Loc X.env.scope y) (hb : DSs X body tb F sl2) (hij : i ∉ [j] ++ sl2) (hj : j ∉ sl2)
    (hN : X.N[i]? = some x := by rfl) (hv : Vis X.env.scope x := by first | exact Or.inl rfl | exact Or.inr (Or.inl rfl) | exact Or.inr (Or.inr rfl)) (hd : (x == ("__debug__" : Str)) = false := by decide) (hcd : (x == ("__classdict__" : Str)) = false := by decide)
    (hf : X.fn y = true ∨ X.env.scope.names.lookup y = some .local := by first | exact .inl rfl | exact .inr rfl | assumption)
    (hs : ∀ z, foldedSetIterable (.Name x npos) X.env z = pure z := by intro _; rfl) : DS X (.For (.Name y py) (.Name x npos) body [] pos) (tFor (iList X.K (tVar i)) (gName j) tb) (sForP i j F) ([j] ++ sl2) := by
  refine ⟨ps_for hp hc (pi_list (pe_var hN hv hd hcd)) (pg_name hn hy hyl hf) hb.ps hs, ?_⟩
  intro G0 H0 H ts vs env σ fl env' S e D q
  obtain ⟨us, g1, g2⟩ := obind e
  obtain ⟨⟨fl2, us2, e2⟩, g5, g6⟩ := omap g2
  have he := atL_eq g1
  obtain ⟨v, hv1, S1⟩ := S.get he
  obtain ⟨a, xs0, ev, hx0, _⟩ := S1.cell
  subst ev
  refine ⟨.ref a, hv1, a, rfl, ⟨xs0, .inl (.inl hx0)⟩, ?_⟩
  refine ⟨fun k m σ2 H => m = us.length - k ∧ k ≤ us.length ∧ Dif ([j] ++ sl2) σ σ2 ∧ ∃ env done rest, done.length = k ∧ done.length + rest.length = us.length ∧ OkS X.K G0 H0 [] H (.lst (done ++ rest) :: ts) (.ref a :: vs) env σ2 ∧ loopP j F done rest env = some (fl2, us2, e2), ⟨us.length, by simp, Nat.zero_le _, .rfl', _, [], us, rfl, by simp, S1, g5⟩, ?_⟩
  rintro k m σ2 H2 ⟨rfl, hle, df, env2, done, rest, hk, hkl, S2, hl⟩
  have fin : ∀ (fl : Fl) (us3 : List T) (env3 : Env) (H3 : Hp) (σ3 : St), (fl2, us2, e2) = (.nx, us3, env3) → OkS X.K G0 H0 [] H3 (.lst us3 :: ts) (.ref a :: vs) env3 σ3 → Dif ([j] ++ sl2) σ σ3 → D.nx σ3 H3 := fun _ us3 env3 H3 σ3 e S3 df3 => by
    cases e
    cases g6
    have hlen : i < σ.length := (List.getElem?_eq_some_iff.mp hv1).1
    have h3 : σ3[i]? = some (some (.ref a)) := (df3.2 i hij).trans hv1
    have S4 := S3.put (i := i) (by have := S3.len; rw [df3.1] at this; omega)
    rw [set_back h3] at S4
    exact q H3 σ3 S4 df3
  cases rest with
  | nil =>
    cases hl
    obtain ⟨a', xs, ea, hx, hxl⟩ := S2.cell
    cases ea
    rw [List.append_nil] at S2 hxl
    exact .inl ⟨⟨xs, .inl (.inl hx), by simp at hkl; omega⟩, fin .nx _ _ H2 σ2 rfl S2 df⟩
  | cons t rest =>
    have hl : (if j < env2.length ∧ isRT t = true then (F (env2.set j (some t))).bind _ else none) = some (fl2, us2, e2) := hl
    split at hl
    · rename_i hjt
      obtain ⟨⟨fl3, e3⟩, l1, l2⟩ := obind hl
      obtain ⟨a', xs, b, ea, hx, hxl, hxk, S3⟩ := S2.hole hjt.2
      cases ea
      rw [List.length_cons] at hkl
      refine .inr ⟨⟨xs, .ref b, .inl (.inl hx), by rw [← hk]; exact hxk⟩, fun σ' H' => k + 1 ≤ us.length ∧ Dif ([j] ++ sl2) σ σ' ∧ ∃ env done rest, done.length = k + 1 ∧ done.length + rest.length = us.length ∧ OkS X.K G0 H0 [] H' (.lst (done ++ rest) :: ts) (.ref a :: vs) env σ' ∧ loopP j F done rest env = some (fl2, us2, e2), fun σ' H' ⟨h1, h2⟩ => ⟨us.length - (k + 1), by omega, rfl, h1, h2⟩, fun w H3 hw => ?_⟩
      obtain ⟨eH, hw⟩ := hw
      subst eH
      have ew : V.ref b = w := Option.some.inj ((by rw [← hk]; exact hxk : xs[k]? = some (V.ref b)).symm.trans (hw xs (.inl (.inl hx))))
      subst ew
      have S4 := S3.put (i := j) hjt.1
      have hσl : j < σ2.length := by rw [S2.len]; exact hjt.1
      refine hb.ok _ _ _ _ _ _ _ _ _ S4 l1 _ ?_
      have back : ∀ (us0 : List T) (vs0 : List V) (t' : T) (H' : Hp) (σ' : St), e3[j]? = some (some t') → OkS X.K G0 H0 [] H' (us0 ++ .lst (done ++ .al (b + 1) :: rest) :: ts) (vs0 ++ .ref a :: vs) e3 σ' → vs0.length = us0.length → Dif sl2 (σ2.set j (some (V.ref b))) σ' → OkS X.K G0 H0 [] H' (.lst (done ++ t' :: rest) :: (us0 ++ ts)) (.ref a :: (vs0 ++ vs)) (e3.set j none) σ' := fun us0 vs0 t' H' σ' ht' S5 hv0 dfb => by
        obtain ⟨v', hv', S6⟩ := S5.get ht'
        have : σ'[j]? = some (some (V.ref b)) := by rw [dfb.2 j hj, List.getElem?_set_self hσl]
        rw [this] at hv'; cases hv'
        have S7 : OkS X.K G0 H0 [] H' (.lst (done ++ .al (b + 1) :: rest) :: ([t'] ++ us0 ++ ts)) (.ref a :: ([V.ref b] ++ vs0 ++ vs)) (e3.set j none) σ' := OkS.mid (us := [t'] ++ us0) (ws := [V.ref b] ++ vs0) (by simp [hv0]) (by simpa using S6)
        have S8 : OkS X.K G0 H0 [] H' (t' :: .lst (done ++ .al (b + 1) :: rest) :: (us0 ++ ts)) (V.ref b :: .ref a :: (vs0 ++ vs)) (e3.set j none) σ' := by
          exact OkS.mid (us := [.lst (done ++ .al (b + 1) :: rest)]) (ws := [V.ref a]) (x := t') (y := V.ref b) rfl S7
        exact S8.unhole
      have dd : ∀ σ', Dif sl2 (σ2.set j (some (V.ref b))) σ' → Dif ([j] ++ sl2) σ σ' := fun σ' d2 => df.two (Dif.tr Dif.set d2)
      split at l2
      · rename_i t' ht'
        have ht' : e3[j]? = some (some t') := ht'
        cases fl3 with
        | nx =>
          intro H' σ' S5 d2
          have S6 := back [] [] t' H' σ' ht' S5 rfl d2
          exact ⟨by omega, dd σ' d2, _, done ++ [t'], rest, by simp [hk], by simp; omega, by simpa using S6, l2⟩
        | ct =>
          intro H' σ' S5 d2
          have S6 := back [] [] t' H' σ' ht' S5 rfl d2
          exact ⟨by omega, dd σ' d2, _, done ++ [t'], rest, by simp [hk], by simp; omega, by simpa using S6, l2⟩
        | bk =>
          intro H' σ' S5 d2
          have S6 := back [] [] t' H' σ' ht' S5 rfl d2
          exact fin .nx _ _ H' σ' (Option.some.inj l2).symm S6 (dd σ' d2)
        | rt u =>
          intro w' H' σ' S5 d2
          have S6 := back [u] [w'] t' H' σ' ht' S5 rfl d2
          have e5 : (Fl.rt u, done ++ t' :: rest, e3.set j none) = (fl2, us2, e2) := Option.some.inj l2
          cases e5
          cases g6
          have d3 := dd σ' d2
          have h3 : σ'[i]? = some (some (.ref a)) := (d3.2 i hij).trans hv1
          have hlen : i < σ.length := (List.getElem?_eq_some_iff.mp hv1).1
          have S7 := S6.put (i := i) (by have := S6.len; rw [d3.1] at this; omega)
          rw [set_back h3] at S7
          exact q w' H' σ' S7 d3
      · cases l2
    · cases hl
end DL
set_option Elab.async false
set_option linter.all false
set_option maxRecDepth 100000
set_option maxHeartbeats 1000000
namespace DL
open PySem PySem.Spec PyProof.Rows L2
def boolsD : List D → Option (List Bool)
  | [] => some []
  | .bl i :: r => (boolsD r).map (i :: ·)
  | _ => none
def gAll (t : T) : Option D := (listD t.toD).bind fun ds => (boolsD ds).map fun bs => .bl (bs.all id)
def gAny (t : T) : Option D := (listD t.toD).bind fun ds => (boolsD ds).map fun bs => .bl (bs.any id)
section
variable {X : Cx} {a e : Expr} {ta te : TE} {fa f : EF} {npos p pos p1 p2 tpos : Pos}
def eIsi2 (t1 t2 : String) (f : EF) : EF := fun env => (f env).bind fun r => if tyOk r.1.toD = true then (kitB (tyD r.1.toD) t1).bind fun b => (kitB (tyD r.1.toD) t2).map fun c => (.p (.bl (b || c)), r.2) else none
end
end DL
set_option Elab.async false
set_option linter.all false
set_option maxRecDepth 100000
set_option maxHeartbeats 1000000
namespace DL
open PySem PySem.Spec PyProof.Rows L2 LiI
def itemD (kv : Key × D) : D := .tup [kD kv.1, kv.2]
def eItemsL (f : EF) : EF := fun env => (f env).bind fun r => match r.1 with
  | .dic kvs => (frzK kvs).map fun kd => (.lst ((kd.map itemD).map T.p), r.2)
  | _ => none
def gIndex (a b : Str) : Option D := match Builtin.Str.occurrences a b 0 a.length 1 with
  | i :: _ => some (.int ((i : Nat) : Int))
  | [] => none
end DL
set_option Elab.async false
set_option linter.all false
set_option maxRecDepth 100000
namespace DL
open PySem PySem.Spec PyProof.Rows L2
variable {env e : Env} {i j n k : Nat} {t u : T} {ts us : List T} {d a b : D} {ds es : List D} {fa fb fc f fk fx : EF} {r : AF} {F1 F2 F : SF} {G : GF} {z w : Int} {P : List Stp} {fo : PF} {ky : Key} {kvs : List (Key × T)} {nm fn : Str} {fs : List (Str × T)} {ad : Addr} {kd : List (Key × D)} {φ : T → List D → Option (T × T)} {ψ : List D → Option T}
def kMvP2 (i : Nat) (P : List Stp) (e : Env) (u : T) : T × Env := (u, putP e i P (.al 0))
def kMvP (i : Nat) (r : List Stp × Env) : Option (T × Env) := (atP r.2 i r.1).map (kMvP2 i r.1 r.2)
def kMk3 (e : Env) (z : T × T) : Option (T × Env) := match z.1 with
  | .p .non => some (z.2, e)
  | _ => none
def kMk2 (nm : Str) (φ : T → List D → Option (T × T)) (e : Env) (ds : List D) : Option (T × Env) := (φ (.obj nm []) ds).bind (kMk3 e)
def kMk1 (nm : Str) (φ : T → List D → Option (T × T)) (s : List T × Env) : Option (T × Env) := (allP s.1).bind (kMk2 nm φ s.2)
def kMe2 (n m : Str) (φ : T → List D → Option (T × T)) (i : Nat) (fr : AF) (P : List Stp) (e : Env) (t : T) : Option (T × Env) := match unb t with
  | .obj c fs => if c = n ∧ (valT fs m).isNone = true then (fr e).bind (kCM2 φ i P) else none
  | _ => none
def kMe1 (n m : Str) (φ : T → List D → Option (T × T)) (i : Nat) (fr : AF) (x : List Stp × Env) : Option (T × Env) := (atP x.2 i x.1).bind (kMe2 n m φ i fr x.1 x.2)
def kCl2 (e : Env) (t : T) : Option (T × Env) := if cleanV t = true then some (t, e) else none
def kCC (ψ : List D → Option T) (r : List T × Env) : Option (T × Env) := (ψ (T.toDs r.1)).bind (kCl2 r.2)
def kAb4 (i : Nat) (P : List Stp) (a : Addr) (x : T) (e : Env) (t : T) : Option (Fl × Env) := match t with
  | .box b (.lst us) => if b = a ∧ us.length < 16000000 then some (.nx, putP e i P (.box b (.lst (us ++ [x])))) else none
  | _ => none
def kAb3 (i : Nat) (P : List Stp) (a : Addr) (s : T × Env) : Option (Fl × Env) := (atP s.2 i P).bind (kAb4 i P a s.1 s.2)
def kAb2 (i : Nat) (f : EF) (P : List Stp) (e : Env) (t : T) : Option (Fl × Env) := match t with
  | .box a (.lst _) => (f e).bind (kAb3 i P a)
  | _ => none
def kAb1 (i : Nat) (f : EF) (r : List Stp × Env) : Option (Fl × Env) := (atP r.2 i r.1).bind (kAb2 i f r.1 r.2)
def kKs (k : Key) (ks : List Key) : List Key := k :: ks
def kKl2 (ds : List D) (k : Key) : Option (List Key) := (keysL ds).map (kKs k)
variable {kt : List (List Key × D)} {kk : List Key}
def kGt5 (kt : List (List Key × D)) (u : T × Env) (k : List Key) : Option (T × Env) := match u.1 with
  | .p z => some (.p ((valDt kt k).getD z), u.2)
  | _ => none
def kGt4 (s : T) (u : T × Env) (kt : List (List Key × D)) : Option (T × Env) := (keyTT s).bind (kGt5 kt u)
def kGt3 (t s : T) (u : T × Env) : Option (T × Env) := (ditT t).bind (kGt4 s u)
def kGt2 (fx : EF) (t : T) (s : T × Env) : Option (T × Env) := (fx s.2).bind (kGt3 t s.1)
def kGt1 (fi fx : EF) (r : T × Env) : Option (T × Env) := (fi r.2).bind (kGt2 fx r.1)
end DL
set_option Elab.async false
set_option linter.all false
set_option maxRecDepth 100000
namespace DL
open PySem PySem.Spec PyProof.Rows L2
section
variable {K : PySem.W.Frag} {G0 H0 H : Hp} {W : List (T × V)} {ts : List T} {vs : List V} {env : Env} {σ : St} {t : T} {v : V}
end
def cutU (us : List T) (lo hi : Option Int) : List T := (us.drop (HT.sIx us.length 0 lo)).take (HT.sIx us.length us.length hi - HT.sIx us.length 0 lo)
def cutUT (t : T) (lo hi : Option Int) : Option T := match t with
  | .tup us => if HT.sIx us.length 0 lo = 0 ∧ HT.sIx us.length us.length hi = us.length then none else some (.tup (cutU us lo hi))
  | _ => none
def eSlM (fa : EF) (lo hi : OF) : EF := fun env => (fa env).bind fun r => (lo r.2).bind fun l => (hi l.2).bind fun u => (cutUT r.1 l.1 u.1).map fun t => (t, u.2)
section
variable {X : Cx} {e : Expr} {te : TE} {f : EF} {lo hi : Option Expr} {tl th : TO} {fl fh : OF} {pos p2 : Pos}
end
def sForU (f : EF) (G : GF) (body : SF) : SF := fun env => (f env).bind fun r => match r.1 with
  | .tup us => loopT G body us r.2
  | _ => none
section
variable {f : EF} {lo hi : OF} {G : GF} {F : SF} {env e e1 e2 e3 : Env} {t u : T} {us : List T} {l h : Option Int} {r : Fl × Env}
end
end DL
set_option Elab.async false
set_option linter.all false
set_option maxRecDepth 100000
set_option maxHeartbeats 1000000
namespace RT
open PySem PySem.Spec PyProof.Rows
section
variable {prog : Program} {w : World} {A : Around} {E : Value → Shared → Prop} {s : Shared}
end
end RT
namespace DL
open PySem PySem.Spec PyProof.Rows L2 RT
def tListRev (K : PySem.W.Frag) (te : TE) : TE := fun σ H Q => te σ H fun v H1 => ∃ (a : Addr) (xs : List V), v = .ref a ∧ SqL K H1 a xs ∧ ∀ q, H1 q = none → Q (.ref q) (upd H1 q (.lst xs.reverse))
section
variable {X : Cx}
theorem RpDs.reverse {K : PySem.W.Frag} {G : Hp} : ∀ {ds : List D} {xs : List V}, RpDs K G ds xs → RpDs K G ds.reverse xs.reverse
  | [], _, h => by rw [show _ = _ from h]; exact rfl
  | d :: ds, _, ⟨v, r, h1, h2, h3⟩ => by
    subst h1
    rw [List.reverse_cons, List.reverse_cons]
    exact (RpDs.reverse h3).append ⟨v, [], rfl, h2, rfl⟩
def eListRev (f : EF) : EF := fun env => (f env).bind fun r => if isLT r.1 = true then (itemsT r.1).map fun ds => (.lst (ds.reverse.map T.p), r.2) else none
end
end DL
set_option Elab.async false
set_option linter.all false
set_option maxRecDepth 100000
set_option maxHeartbeats 1000000
namespace DL
open PySem PySem.Spec PyProof.Rows L2
abbrev Kys := List (Int ⊕ List Nat)
section
variable {α : Type} {lt : α → α → Bool}
def insB (lt : α → α → Bool) (x : α) : List α → List α
  | [] => [x]
  | y :: r => if lt y x = true then y :: insB lt x r else x :: y :: r
def sortBy (lt : α → α → Bool) : List α → List α
  | [] => []
  | x :: r => insB lt x (sortBy lt r)
abbrev SrtB (lt : α → α → Bool) (l : List α) : Prop := l.Pairwise fun x y => lt y x = false
end
def kIt (sh : Nat → Bool) : Nat → List D → Option Kys
  | _, [] => some []
  | i, .int n :: r => if sh i = true then none else (kIt sh (i + 1) r).map (Sum.inl n :: ·)
  | i, .str s :: r => if sh i = true then (kIt sh (i + 1) r).map (Sum.inr s.cps.toList :: ·) else none
  | _, _ :: _ => none
def kTu (sh : Nat → Bool) : D → Option Kys
  | .tup (d :: ds) => kIt sh 0 (d :: ds)
  | _ => none
def ky1 : D → Int ⊕ List Nat
  | .int n => .inl n
  | .str s => .inr s.cps.toList
  | _ => .inl 0
def kyD : D → Kys
  | .tup ds => ds.map ky1
  | _ => []
def dLt (d e : D) : Bool := PyProof.Rows.lexLt itemOrd (kyD d) (kyD e)
def isK1 : D → Prop
  | .int _ => True
  | .str _ => True
  | _ => False
def shp : D → Nat → Bool
  | .tup ds => fun i => match ds[i]? with
    | some (.str _) => true
    | _ => false
  | _ => fun _ => false
def sortQ (ds : List D) : Option (List D) := match ds with
  | [] => some []
  | d :: r => if ((d :: r).all fun e => (kTu (shp d) e).isSome) = true then some (sortBy dLt (d :: r)) else none
def kVi (sh : Nat → Bool) : Nat → List V → Option Kys
  | _, [] => some []
  | i, .int n :: r => if sh i = true then none else (kVi sh (i + 1) r).map (Sum.inl n :: ·)
  | i, .str s :: r => if sh i = true then (kVi sh (i + 1) r).map (Sum.inr s.cps.toList :: ·) else none
  | _, _ :: _ => none
def KTup (K : PySem.W.Frag) (H : Hp) (sh : Nat → Bool) (x : V) (k : Kys) : Prop := ∃ t w ws, x = .ref t ∧ SqT K H t (w :: ws) ∧ kVi sh 0 (w :: ws) = some k
def rSortK (K : PySem.W.Frag) : List V → Hp → VK → Prop := fun vs H Q => ∃ (a : Addr) (xs : List V) (sh : Nat → Bool), vs = [V.ref a] ∧ SqL K H a xs ∧ (∀ x ∈ xs, ∃ k, KTup K H sh x k) ∧
  ∀ (ys : List V) (p : Addr), ys.Perm xs → ys.Pairwise (fun x y => ∀ k m, KTup K H sh x k → KTup K H sh y m → PyProof.Rows.lexLt itemOrd m k = false) → H p = none → Q (.ref p) (upd H p (.lst ys))
def eSortT (f : EF) : EF := fun env => (f env).bind fun r => if isLT r.1 = true then (itemsT r.1).bind fun ds => (sortQ ds).map fun es => (.lst (es.map T.p), r.2) else none
end DL
set_option Elab.async false
set_option linter.all false
set_option maxRecDepth 100000
set_option maxHeartbeats 1000000
namespace DL
open PySem PySem.Spec PyProof.Rows L2
structure DPs (X : Cx) (pos : Pos) (keys : List (Option Expr)) (values : List Expr) (trs : List (TE × TE)) (ks : List Str) (f : AF) : Prop where
  pp : PPs X pos keys values trs
  ok : ∀ (G0 H0 : Hp) (W : List (T × V)) (H : Hp) (ts : List T) (vs : List V) (env : Env) (σ : St) (us : List T) (env' : Env), OkS X.K G0 H0 W H ts vs env σ → f env = some (us, env') →
    ∀ Q : List (V × V) → Hp → Prop, (∀ ws H', Same H H' → ws.length = us.length → ks.length = us.length → OkS X.K G0 H0 W H' (us ++ ts) (ws ++ vs) env' σ → Q (((ks.map Sum.inr).zip ws).map fun kv : Key × V => (L2.kV kv.1, kv.2)) H') → tPairs trs σ H Q
section
variable {X : Cx} {pos : Pos} {k v : Expr} {keys : List (Option Expr)} {values : List Expr} {tk tv : TE} {trs : List (TE × TE)} {ks : List Str} {key : Str} {f : EF} {fr : AF}
end
def eDisp (ks : List Str) (ra : AF) : EF := fun env => (ra env).map fun r => (.dic ((ks.map Sum.inr).zip r.1), r.2)
end DL
set_option Elab.async false
set_option linter.all false
set_option maxRecDepth 100000
namespace DL
open PySem PySem.Spec PyProof.Rows L2
set_option maxHeartbeats 1000000 in
theorem meets_enumT (l : Addr) (xs : Array Value) :
    Meets (Builtin.«enumerate.__new__» ⟨[.type "enumerate", .ref l], []⟩) (fun _ R s => s.heap.IsTuple l xs ∧
      R (.ok (.ret (.ref (s.heap.push { cls := .type "tuple_iterator", data := .fields #[.ref l, .int 0 0] }).objs.size)))
        { s with heap := (s.heap.push { cls := .type "tuple_iterator", data := .fields #[.ref l, .int 0 0] }).push { cls := .type "enumerate", data := .fields #[.none, .bool false, .ref s.heap.objs.size, rawInt 0, .none, .none] } }) :=
  .of_wp fun prog w A R s h => by
    obtain ⟨hp, g, d, tk, os⟩ := s
    obtain ⟨hl, h⟩ := h
    have hsub := sub_enumerate
    have hL : Heap.IsTuple (Shared.heap ⟨hp, g, d, tk, os⟩) l xs := hl
    wp_walk using wpAny_pyIter_tuple hL
    refine wpAny_stack_any fun st => wpAny_pure ?_
    split
    · rename_i c _ _ _ _ _
      cases (c == Value.type "enumerate")
      · wp_walk using wpAny_pyIter_tuple hL
        exact ⟨_, rfl, h⟩
      · wp_walk using wpAny_pyIter_tuple hL
        exact ⟨_, rfl, h⟩
    · wp_walk using wpAny_pyIter_tuple hL
      exact ⟨_, rfl, h⟩
section
variable {prog : Program} {w : World} {A : Around} {E : Value → Shared → Prop} {s : Shared}
end
def IteT (K : PySem.W.Frag) (a : Addr) : It :=
  ⟨fun i H => ∃ (xs : List V) (x : V), SqT K H a xs ∧ xs[i]? = some x, fun i H v H' => ∃ T x, v = .ref T ∧ H T = none ∧ H' = upd H T (.tup [.int (i : Nat), x]) ∧ ∀ xs, SqT K H a xs → xs[i]? = some x, fun i H => ∃ xs : List V, SqT K H a xs ∧ xs.length ≤ i⟩
def iEnumT (K : PySem.W.Frag) (ta : TA) : TI := fun σ H R => ta σ H fun vs H1 => ∃ a xs, vs = [.ref a] ∧ SqT K H1 a xs ∧ R (IteT K a) H1
def iEnT (f : AF) : IF := fun env => (f env).bind fun r => match r.1 with
  | [.p (.tup ds)] => some (enumD 0 ds, r.2)
  | _ => none
end DL
set_option Elab.async false
set_option linter.all false
set_option maxRecDepth 100000
namespace DL
open PySem PySem.Spec PyProof.Rows L2
def allO : T → Option (List D)
  | .lst ts => allP ts
  | _ => none
def vL (f : EF) : IF := fun env => (f env).bind fun r => (allO r.1).bind fun ds => some (ds, r.2)
theorem own_at {K : PySem.W.Frag} {G H : Hp} {u : T} {v : V} {ds : List D} (h : ∃ o, Rp K G H u v o) (ha : allO u = some ds) : ∃ a xs, v = .ref a ∧ H a = some (.lst xs) ∧ RpDs K G ds xs := by
  obtain ⟨o, h⟩ := h
  cases u with
  | lst us =>
    have e := allP_eq (show allP us = some ds from ha)
    subst e
    obtain ⟨a, xs, o', h1, h2, h3, h4⟩ := h
    exact ⟨a, xs, h1, h2, (rpDs_of h3).1⟩
  | _ => cases ha
theorem SqL.seqS {K : PySem.W.Frag} {G H : Hp} {a : Addr} {xs : List V} (s : Same G H) (h : SqL K G a xs) : SqL K H a xs := s.seq h
theorem OkS.same2 {K : PySem.W.Frag} {G1 H0 H : Hp} {W : List (T × V)} {ts : List T} {vs : List V} {env : Env} {σ : St} (S : OkS K G1 H0 W H ts vs env σ) : Same G1 H := S.same
theorem ev_compV {K : PySem.W.Frag} {tv : TE} {fv : EF} {g : TG} {G : GF} {sl own : List Nat} {tt : TT} {ct : CF} {te : TE} {fe : EF} (hI : EvV K tv fv) (hg : EvG K g G sl) (hsl : ∀ j ∈ sl, j ∈ own) (ht : EvC K tt ct) (he : EvT K te fe) : EvT K (tLc (iList K tv) g tt te own) (eComp own (vL fv) G ct fe) := by
  intro G0 H0 W H ts vs env σ t env' S e Q q
  obtain ⟨⟨ds, e1⟩, g1, g2⟩ := obind e
  by_cases hlen : ds.length ≤ 1000000
  · rw [if_pos hlen] at g2
    obtain ⟨⟨us, e2⟩, g3, g4⟩ := omap g2
    cases g4
    obtain ⟨⟨u, e0⟩, gv, gw⟩ := obind g1
    obtain ⟨ds', ga, gb⟩ := obind (show (allO u).bind (fun ds => some (ds, e0)) = some (ds, e1) from gw)
    cases gb
    refine hI _ _ _ _ _ _ _ _ _ _ S gv _ fun v H1 s1 S1 => ?_
    obtain ⟨G2, gst2, hv, S2⟩ := S1.fixV
    obtain ⟨a, xs, rfl, ha1, hr⟩ := own_at (hv (u, v) (List.mem_cons_self ..)) ga
    have hq : SqL K H1 a xs := .inl (.inl ha1)
    have I1 : ItOk K H1 (Itl K a) ds := itOk_l hq (RpDs.mono S2.same2 _ hr)
    refine ⟨a, rfl, ⟨xs, hq⟩, ?_⟩
    intro D hD
    have S3 : OkS K G2 H0 [] (upd H1 D (.lst [])) (.lst [] :: ts) (.ref D :: vs) (wipeE e1 own) (wipe σ own) := (OkS.newL (us := []) (ws := []) rfl S2 hD).toWipe own
    refine ⟨fun i m H => m = ds.length - i ∧ i ≤ ds.length ∧ Same H1 H ∧ ∃ env acc rest, OkS K G2 H0 [] H (.lst acc :: ts) (.ref D :: vs) env (wipe σ own) ∧ compD own G ct fe (ds.drop i) env = some (rest, e2) ∧ us = acc ++ rest ∧ acc.length ≤ i ∧ (∀ (j : Nat) (t : T), env[j]? = some (some t) → j ∉ own),
      ⟨ds.length, by simp, Nat.zero_le _, same_upd hD, wipeE e1 own, [], us, S3, by simpa using g3, rfl, Nat.le_refl _, fun j t e => (wipeE_some e).1⟩, ?_⟩
    rintro i m Hi ⟨rfl, hle, sm, envi, acc, rest, Si, hc, hu, ha, hw0⟩
    by_cases hlt : i < ds.length
    · refine .inr ⟨I1.go i Hi sm hlt, fun H' => i + 1 ≤ ds.length ∧ Same H1 H' ∧ ∃ env acc rest, OkS K G2 H0 [] H' (.lst acc :: ts) (.ref D :: vs) env (wipe σ own) ∧ compD own G ct fe (ds.drop (i + 1)) env = some (rest, e2) ∧ us = acc ++ rest ∧ acc.length ≤ i + 1 ∧ (∀ (j : Nat) (t : T), env[j]? = some (some t) → j ∉ own), fun H' ⟨h1, h2⟩ => ⟨ds.length - (i + 1), by omega, rfl, h1, h2⟩, fun x H3 y => ?_⟩
      obtain ⟨s3, S4⟩ : Same Hi H3 ∧ OkS K G2 H0 [] H3 (.p ds[i] :: (.lst acc :: ts)) (x :: (.ref D :: vs)) envi (wipe σ own) := by
        obtain ⟨e, y⟩ := y
        subst e
        obtain ⟨z, z1, z2⟩ := hr.get (List.getElem?_eq_getElem hlt)
        have := y xs (SqL.seqS sm hq)
        rw [z1] at this
        cases this
        exact ⟨Same.refl _, Si.pushG z2⟩
      rw [List.drop_eq_getElem_cons hlt] at hc
      obtain ⟨e3, l1, l2⟩ := obind hc
      obtain ⟨⟨b, e4⟩, l3, l4⟩ := obind l2
      refine hg _ _ _ _ _ _ _ _ _ _ _ S4 l1 _ fun σ2 S5 dif => ?_
      have hw : wipe σ2 own = wipe σ own := by
        refine wipe_eq (dif.1.trans (wipe_length _ _)) fun j hj => (dif.2 j fun z => hj (hsl j z)).trans (wipe_out' hj)
      have again : ∀ {H4 : Hp} {e5 : Env} {acc' : List T}, OkS K G2 H0 [] H4 (.lst acc' :: ts) (.ref D :: vs) e5 σ2 → OkS K G2 H0 [] H4 (.lst acc' :: ts) (.ref D :: vs) (wipeE e5 own) (wipe σ own) := fun S => by
        rw [← hw]; exact S.toWipe own
      refine ⟨hw, ?_⟩
      refine ht _ _ _ _ _ _ _ _ _ _ S5 l3 _ fun H4 s4 S6 => ?_
      cases b with
      | false =>
        rw [if_neg Bool.false_ne_true]
        exact ⟨hlt, (sm.trans s3).trans s4, _, acc, rest, again S6, l4, hu, by omega, fun j t e => (wipeE_some e).1⟩
      | true =>
        rw [if_pos rfl]
        obtain ⟨⟨u, e5⟩, l5, l6⟩ := obind (show (fe e4).bind (fun s => (compD own G ct fe (ds.drop (i + 1)) (wipeE s.2 own)).map fun z => (s.1 :: z.1, z.2)) = some (rest, e2) from l4)
        obtain ⟨⟨zs, e6⟩, l7, l8⟩ := omap l6
        cases l8
        refine he _ _ _ _ _ _ _ _ _ _ S6 l5 _ fun y H5 s5 S7 => ?_
        have S8 : OkS K G2 H0 [] H5 (.lst acc :: ([u] ++ ts)) (.ref D :: ([y] ++ vs)) e5 σ2 := OkS.mid (us := [u]) (ws := [y]) rfl S7 |> fun S => by
          have := OkS.mid (us := [u]) (ws := [y]) (x := .lst acc) (y := .ref D) rfl S7
          exact this
        obtain ⟨a, xs, k1, k2, k3, k4⟩ := OkS.wrL (es := [u]) (ws := [y]) S8 rfl
        cases k1
        refine ⟨xs, k2, by rw [k3, sizeLine_eq]; omega, hlt, ?_, _, acc ++ [u], zs, again (k4 (acc ++ [u]) (xs ++ [y]) fun G o1 o2 r1 r2 => ⟨o1 ++ o2, [], r1.append r2, by simp⟩), l7, by rw [hu]; simp, by simp; omega, fun j t e => (wipeE_some e).1⟩
        intro b ob eb
        have : b ≠ D := fun z => by rw [z, hD] at eb; cases eb
        rw [upd_ne this]
        exact s5 b ob (s4 b ob (s3 b ob (sm b ob eb)))
    · have hi' : i = ds.length := by omega
      subst hi'
      rw [List.drop_length] at hc
      cases hc
      rw [List.append_nil] at hu
      subst hu
      have Sf : OkS K G2 H0 W Hi (.lst us :: ts) (.ref D :: vs) e2 σ := (Si.slots (by rw [wipe_length]) fun j t e => (wipe_out' (hw0 j t e)).symm).reV (W := W) (fun q hq => hv q (List.mem_cons_of_mem _ hq)) sm
      exact .inl ⟨I1.stop Hi sm, q _ Hi (s1.trans sm) (Sf.back gst2)⟩
  · rw [if_neg hlen] at g2; cases g2
section
variable {X : Cx} {elt tg iter : Expr} {ifs : List Expr} {scope : Scope} {own : List (Str × Nat)} {pos spos py : Pos} {tv : TE} {fv : EF} {g : Shared → Hp → Addr → List (Str × Addr) → List Addr → TG} {G : GF} {sl : List Nat} {tt : Shared → Hp → Addr → List (Str × Addr) → List Addr → TT} {ct : CF} {te : Shared → Hp → Addr → List (Str × Addr) → List Addr → TE} {fe : EF} {i : Nat} {y : Str}
theorem dt_compV (hc : X.calm = true) (hN : X.N.Nodup) (hi : DV X iter tv fv) (ok : BlkOk X.N X.env.scope scope own)
    (hg : ∀ (s : Shared) (H : Hp) (C : Addr) (cl : List (Str × Addr)) (fp : List Addr), DG (X.blk s H scope (compEnvC scope cl C X.env) fp) tg (g s H C cl fp) G sl) (ht : ∀ (s : Shared) (H : Hp) (C : Addr) (cl : List (Str × Addr)) (fp : List Addr), DTs (X.blk s H scope (compEnvC scope cl C X.env) fp) ifs (tt s H C cl fp) ct)
    (he : ∀ (s : Shared) (H : Hp) (C : Addr) (cl : List (Str × Addr)) (fp : List Addr), DT (X.blk s H scope (compEnvC scope cl C X.env) fp) elt (te s H C cl fp) fe) (hsl : ∀ j ∈ sl, j ∈ own.map (·.2) := by decide) (hs : ∀ x, foldedSetIterable iter X.env x = pure x := by intro _; rfl) :
    DT X (.ListComp elt [⟨tg, iter, ifs, 0⟩] scope pos) (tLc (iList X.K tv) (tgW X.K G sl) (ttW X.K ct) (teW X.K fe) (own.map (·.2))) (eComp (own.map (·.2)) (vL fv) G ct fe) :=
  ⟨pe_lc hc hN (pi_list hi.pe) ok (fun s H C cl fp => pg_W (hg s H C cl fp)) (fun s H C cl fp => pts_W (ht s H C cl fp)) (fun s H C cl fp => pe_W (he s H C cl fp)) hs,
    ev_compV hi.ok ev_tgW hsl ev_ttW ev_teW⟩
theorem ds_setLcV (hc : X.calm = true) (hN : X.N.Nodup) (hy : X.N[i]? = some y) (hyl : X.env.scope.names.lookup y = some .local)
    (hsw : swapsWith (.ListComp elt [⟨tg, iter, ifs, 0⟩] scope pos) (some (.Name y py)) spos.line X.env = pure true) (hi : DV X iter tv fv) (ok : BlkOk X.N X.env.scope scope own)
    (hg : ∀ (s : Shared) (H : Hp) (C : Addr) (cl : List (Str × Addr)) (fp : List Addr), DG (X.blk s H scope (compEnvC scope cl C X.env) fp) tg (g s H C cl fp) G sl) (ht : ∀ (s : Shared) (H : Hp) (C : Addr) (cl : List (Str × Addr)) (fp : List Addr), DTs (X.blk s H scope (compEnvC scope cl C X.env) fp) ifs (tt s H C cl fp) ct)
    (he : ∀ (s : Shared) (H : Hp) (C : Addr) (cl : List (Str × Addr)) (fp : List Addr), DT (X.blk s H scope (compEnvC scope cl C X.env) fp) elt (te s H C cl fp) fe) (hsl : ∀ j ∈ sl, j ∈ own.map (·.2) := by decide) (hs : ∀ x, foldedSetIterable iter X.env x = pure x := by intro _; rfl) :
    DS X (.Assign [.Name y py] (.ListComp elt [⟨tg, iter, ifs, 0⟩] scope pos) spos) (tAsg (tLc (iList X.K tv) (tgW X.K G sl) (ttW X.K ct) (teW X.K fe) (own.map (·.2))) (gName i)) (sSet i (eComp (own.map (·.2)) (vL fv) G ct fe)) [i] :=
  ⟨ps_setLc hc hN hy hyl hsw (pi_list hi.pe) ok (fun s H C cl fp => pg_W (hg s H C cl fp)) (fun s H C cl fp => pts_W (ht s H C cl fp)) (fun s H C cl fp => pe_W (he s H C cl fp)) hs,
    evs_set (ev_compV hi.ok ev_tgW hsl ev_ttW ev_teW)⟩
end
theorem vL_q {f : EF} {env e : Env} {α : Type} {dd : α → D} {xs : List α} (h : f env = some (.lst ((xs.map dd).map T.p), e)) : vL f env = some (xs.map dd, e) := by
  unfold vL; rw [h]
  show (allP ((xs.map dd).map T.p)).bind _ = _
  rw [allP_map]; rfl
end DL
set_option Elab.async false
set_option linter.all false
set_option maxRecDepth 100000
namespace DL
open PySem PySem.Spec PyProof.Rows L2
def EvPw (K : PySem.W.Frag) (s : TS) (F : SF) (sl : List Nat) : Prop := ∀ (G0 H0 : Hp) (W : List (T × V)) (H : Hp) (ts : List T) (vs : List V) (env : Env) (σ : St) (fl : Fl) (env' : Env), OkS K G0 H0 W H ts vs env σ → F env = some (fl, env') →
  ∀ D : Ends, (∀ H' σ', Same H H' → OkS K G0 H0 W H' ts vs env' σ' → Dif sl σ σ' → D.nx σ' H') → s D σ H
def OnlyNx (F : SF) : Prop := ∀ env fl e, F env = some (fl, e) → fl = .nx
structure DPw (X : Cx) (st : Stmt) (s : TS) (F : SF) (sl : List Nat) : Prop where
  ps : PS X st s
  ok : EvPw X.K s F sl
  nx : OnlyNx F
structure DPws (X : Cx) (st : List Stmt) (s : TS) (F : SF) (sl : List Nat) : Prop where
  ps : PSs X st s
  ok : EvPw X.K s F sl
  nx : OnlyNx F
section
variable {X : Cx} {e : Expr} {st : Stmt} {sts : List Stmt} {te : TE} {tc : TT} {f : EF} {c : CF} {t u : TS} {F1 F2 : SF} {pos : Pos} {sl sl2 : List Nat}
end
end DL
set_option Elab.async false
set_option linter.all false
set_option maxRecDepth 100000
namespace DL
open PySem PySem.Spec PyProof.Rows L2
def Itz3 (K : PySem.W.Frag) (a b c : Addr) : It :=
  ⟨fun i H => ∃ (xs ys zs : List V), SqT K H a xs ∧ SqL K H b ys ∧ SqL K H c zs ∧ i < xs.length ∧ i < ys.length ∧ i < zs.length,
    fun i H v H' => ∃ T x y z, v = .ref T ∧ H T = none ∧ H' = upd H T (.tup [x, y, z]) ∧ (∀ xs, SqT K H a xs → xs[i]? = some x) ∧ (∀ ys, SqL K H b ys → ys[i]? = some y) ∧ ∀ zs, SqL K H c zs → zs[i]? = some z,
    fun i H => ∃ xs ys zs : List V, SqT K H a xs ∧ SqL K H b ys ∧ SqL K H c zs ∧ min (min xs.length ys.length) zs.length = i⟩
def ch3 (N : Nat) : List Addr := [N + 5, N + 3, N + 4, N, N + 1, N + 2]
structure Tn3 (a b c : Addr) (N i : Nat) (h : Heap) : Prop where
  zp : IsZip h (N + 5) (N + 3) (N + 4) .none
  pI : IsTupOf3 h (N + 3) (.ref N) (.ref (N + 1 : Nat)) (.ref (N + 2 : Nat))
  pO : ∃ u v w, IsTupOf3 h (N + 4) u v w
  i1 : h.IsTupleIter N a i
  i2 : h.IsListIter (N + 1) b i
  i3 : h.IsListIter (N + 2) c i
theorem Tn3.there {a b c : Addr} {N i : Nat} {h : Heap} (S : Tn3 a b c N i h) : ∀ x ∈ ch3 N, ∃ o, h.get? x = some o ∧ ∀ v, o.data ≠ .cell v := fun x hx => by
  obtain ⟨u, v, w, pO⟩ := S.pO
  obtain ⟨o1, g1, _, d1⟩ := S.i1
  obtain ⟨o2, g2, _, d2⟩ := S.i2
  obtain ⟨o3, g3, _, d3⟩ := S.i3
  simp only [ch3, List.mem_cons, List.not_mem_nil, or_false] at hx
  rcases hx with rfl | rfl | rfl | rfl | rfl | rfl
  · exact ⟨_, S.zp, fun _ q => nomatch q⟩
  · exact ⟨_, S.pI, fun _ q => nomatch q⟩
  · exact ⟨_, pO, fun _ q => nomatch q⟩
  · exact ⟨o1, g1, fun _ q => by rw [d1] at q; cases q⟩
  · exact ⟨o2, g2, fun _ q => by rw [d2] at q; cases q⟩
  · exact ⟨o3, g3, fun _ q => by rw [d3] at q; cases q⟩
def iZip3 (K : PySem.W.Frag) (ta : TA) : TI := fun σ H R => ta σ H fun vs H1 => ∃ a b c xs ys zs, vs = [.ref a, .ref b, .ref c] ∧ SqT K H1 a xs ∧ SqL K H1 b ys ∧ SqL K H1 c zs ∧ R (Itz3 K a b c) H1
def zip3D : List D → List D → List D → List D
  | a :: as, b :: bs, c :: cs => .tup [a, b, c] :: zip3D as bs cs
  | _, _, _ => []
def iZ3 (f : AF) : IF := fun env => (f env).bind fun r => match r.1 with
  | [.p (.tup ds), .p (.lst es), .p (.lst fs)] => some (zip3D ds es fs, r.2)
  | _ => none
end DL
set_option Elab.async false
set_option linter.all false
set_option maxRecDepth 100000
namespace DL
open PySem PySem.Spec PyProof.Rows L2
theorem meets_extT (l : Addr) (items : Array Value) (n : Nat) (b : Addr) (items2 : Array Value) (n2 : Nat) (dct : Option Addr) (sl : Array (Option Value)) (hs0 : ¬(!items.isEmpty && Builtin.List.listTooLong (items.size + items2.size)) = true) (hs1 : items.size ≤ sizeLine) (hs2 : items.size + items2.size ≤ sizeLine + 1) :
    Meets (Builtin.«list.extend» ⟨[.ref l, .ref b], []⟩) (fun _ R s => s.heap.get? l = some { cls := .type "list", dict := none, data := .seq items n, slots := #[] } ∧ s.heap.get? b = some { cls := .type "tuple", dict := dct, data := .seq items2 n2, slots := sl } ∧ R (.ok (.ret Value.none)) { s with heap := s.heap.update l (Obj.mapSeq fun x => x ++ items2), toks := s.toks }) :=
  .of_wp fun prog w A R s h => by
    obtain ⟨hp, g, d, tk, os⟩ := s; obtain ⟨hl, hb, h⟩ := h; have f1 := AutoSeq1.idx_int; have f2 := AutoSeq1.sub_tuple_tuple; have f3 := AutoSeq1.sub_list_list; have f4 := AutoSeq1.sub_tuple_list; have f5 := AutoSeq1.sub_list_tuple;
    have hz' : (items ++ items2).size ≤ sizeLine + 1 := by rw [Array.size_append]; exact hs2
    wp_walk using (wpAny_updateSeq hl rfl (hz := hs1) (_hz' := hz')), AutoSeq1.wpAny_loadPart' hl, AutoSeq1.wpAny_loadPart' hb; exact ⟨_, rfl, h⟩
def rExtendT (K : PySem.W.Frag) : V → List V → Hp → VK → Prop := fun x vs H Q => ∃ l b xs zs, x = .ref l ∧ vs = [.ref b] ∧ H l = some (.lst xs) ∧ SqT K H b zs ∧ xs.length + zs.length ≤ sizeLine ∧ Q .non (upd H l (.lst (xs ++ zs)))
theorem mt_extendT {X : Cx} : MtR X "list.extend" (rExtendT X.K) := by
  intro pins s σ H x vs v us Q I rx rv h
  obtain ⟨l, b, xs, zs, rfl, rfl, hH, hB, hz, q⟩ := h
  cases rx
  obtain ⟨u, rfl, ru⟩ := rv.one
  cases ru
  obtain ⟨z, its, n, r, hl, e⟩ := I.lstM hH
  obtain ⟨its2, r2, p2, z2⟩ := I.tuple hB
  obtain ⟨⟨c2, dct, dt, sl⟩, e2, hc, n2, hd⟩ := (show s.heap.IsTuple b its2.toArray from p2)
  replace hc : c2 = .type "tuple" := hc
  replace hd : dt = .seq its2.toArray n2 := hd
  subst hc hd
  have l1 := r.length
  have l2 := r2.length
  have hsz : its.toArray.size + its2.toArray.size ≤ sizeLine := by rw [List.size_toArray, List.size_toArray]; omega
  have hlong : ¬ (!its.toArray.isEmpty && Builtin.List.listTooLong (its.toArray.size + its2.toArray.size)) = true := by
    rw [notLongL hsz, Bool.and_false]
    exact Bool.false_ne_true
  refine call_meets F.slot_list_extend ⟨_, e, rfl⟩ F.entry_list_extend (F.args_list_extend_2 _ _)
    (meets_extT l its.toArray n b its2.toArray n2 dct sl hlong (by rw [List.size_toArray]; omega) (by omega)) ⟨e, e2, ?_⟩
  refine ⟨.non, _, I.lset (its' := its ++ its2) hH e (by simp) (r.append r2) ?_, rfl, q⟩
  rw [List.length_append]
  omega
def sExtT (i : Nat) (fo : PF) (f : EF) : SF := fun env => (fo env).bind fun r => (atP r.2 i r.1).bind fun t0 => match unb t0 with
  | .lst _ => (f r.2).bind fun s => match s.1 with
    | .p (.tup ds) => (atP s.2 i r.1).bind fun t => match unb t with
      | .lst us => if us.length + ds.length < 16000000 then some (.nx, putP s.2 i r.1 (reb t (.lst (us ++ ds.map T.p)))) else none
      | _ => none
    | _ => none
  | _ => none
theorem ds_extT {X : Cx} {e o : Expr} {te to : TE} {f : EF} {fo : PF} {i : Nat} {pos cpos apos : Pos} (ho : DP X o to i fo) (h : DT X e te f) (hb : attributeBase o "extend" X.env (eval o X.env) = eval o X.env := by rfl)
    (hse : starEach [e] X.env = (false, eval e X.env) :: starEach [] X.env := by rfl)
    (hfew : ((backTo cpos (starEach [e] X.env)).all (fun x => !x.1) && (backToKw cpos (keywordEach [] X.env)).all (fun x => x.1.isSome)
      && decide ([e].length + ([] : List Keyword).length + (if ([] : List Keyword).isEmpty then 0 else 1) < 30)) = true := by rfl)
    (hline : (apos.endLine == cpos.line) = true := by rfl)
    (hs : swapsWith (.Call (.Attribute o "extend" apos) [e] [] cpos) none pos.line X.env = pure false := by rfl) :
    DS X (.Expr (.Call (.Attribute o "extend" apos) [e] [] cpos) pos) (tDrop (tBM X.K "list" (rExtendT X.K) to (tCons te tNil))) (sExtT i fo f) [] := by
  refine ⟨ps_expr (pe_bm PySem.F.plainAttrs_list PySem.F.slot_list_extend PySem.F.type_list_extend mt_extendT ho.pe (pa_cons h.pe pa_nil hse) hb hfew hline hse rfl) hs, ?_⟩
  intro G0 H0 H ts vs env σ fl env' S g D q
  obtain ⟨⟨P, e1⟩, g1, g2⟩ := obind g
  obtain ⟨t0, g3, g4⟩ := obind g2
  dsimp only at g4
  split at g4
  · rename_i us0 hu0
    obtain ⟨⟨y, e2⟩, g5, g6⟩ := obind g4
    dsimp only at g6
    split at g6
    · rename_i ds2
      obtain ⟨t, g7, g8⟩ := obind g6
      split at g8
      · rename_i us hu
        split at g8
        · rename_i hl
          cases g8
          refine ho.ok _ _ _ _ _ _ _ _ _ _ S g1 _ fun v w H1 s1 S1 hv hc => ?_
          obtain ⟨tt0, k1, k2⟩ := atP_eq g3
          obtain ⟨G, o1, r, sG⟩ := S1.at' k1 k2 hv hc
          have r := r.unb
          rw [hu0] at r
          obtain ⟨a, xs0, o', h1, h2, _⟩ := r
          subst h1
          refine ⟨.inl ⟨rfl, xs0, .inl (.inl h2)⟩, ?_⟩
          refine h.ok _ _ _ _ _ _ _ _ _ _ S1 g5 _ fun x H2 s2 S2 => ?_
          obtain ⟨tt, k3, k4⟩ := atP_eq g7
          obtain ⟨G2, p1, p2, r1, r2, nd, sG2, fr, wr⟩ := OkS.wr (es := [.p (.tup ds2)]) (ws := [x]) S2 rfl k3 k4 hv (hc.same s2)
          have ru := r1.unb
          rw [hu] at ru
          obtain ⟨a', xs, o2, h1', h2', h3', h4'⟩ := ru
          cases h1'
          subst h4'
          obtain ⟨x', r', q1, q2, q3, q4, q5, q6⟩ := r2
          cases q3
          obtain ⟨e7, e8⟩ := q5
          cases e7
          subst e8
          rw [List.append_nil] at q6
          subst q6
          obtain ⟨⟨b, zs, f1, f2, f3⟩, f4⟩ := q4
          subst f1; subst f4
          have nd' : (a :: (o2 ++ [])).Nodup := nd
          have na : a ∉ o2 ++ [] := (List.nodup_cons.mp nd').1
          refine ⟨a, b, xs, zs, rfl, rfl, h2', tup_seq sG2 f2, by rw [h3'.len, f3.len, sizeLine_eq]; omega, ?_⟩
          have r3 := (h3'.append (rpTs_p (H := H2) f3)).mono (Same.refl G2) (H' := upd H2 a (.lst (xs ++ zs))) _ (wN fun hm => na hm)
          have S3 := wr a (.lst (xs ++ zs)) (reb t (.lst (us ++ ds2.map T.p))) [] [] (a :: o2) [] [] (by simp) (r1.reb ⟨a, _, _, rfl, upd_same, r3, by simp⟩) ⟨rfl, rfl⟩ (by
            refine List.perm_iff_count.mpr fun x => ?_
            simp only [List.count_append, List.count_cons, List.count_nil] <;> omega)
          rw [← putP_eq k3] at S3
          exact q _ _ S3 .rfl'
        · cases g8
      · cases g8
    · cases g6
  · cases g4
end DL
set_option Elab.async false
set_option linter.all false
set_option maxRecDepth 100000
namespace DL
open PySem PySem.Spec PyProof.Rows L2
section
variable {X : Cx} {pins : List (Addr × Obj)} {σ : L2.St} {H : Hp} {s : Shared} {d : Addr} {o : Obj}
end
def Itit (d : Addr) (o : Obj) (kvs : List (List Key × V)) (qs : Nat → Addr) : It :=
  ⟨fun i H => H d = some (.frz o (.dT kvs)) ∧ i < kvs.length, fun i H x H' => ∃ T k v, kvs[i]? = some (k, v) ∧ x = .ref T ∧ H T = none ∧ H' = upd H T (.tup [.ref (qs i), v]), fun i H => H d = some (.frz o (.dT kvs)) ∧ kvs.length ≤ i⟩
def KeysAt (H : Hp) (kvs : List (List Key × V)) (qs : Nat → Addr) : Prop := ∀ i k v, kvs[i]? = some (k, v) → H (qs i) = some (.tup (k.map L2.kV))
def iItemsT (td : TE) : TI := fun σ H R => td σ H fun x H1 => ∃ d o kvs, x = .ref d ∧ H1 d = some (.frz o (.dT kvs)) ∧ ∀ qs, KeysAt H1 kvs qs → R (Itit d o kvs qs) H1
end DL
set_option Elab.async false
set_option linter.all false
set_option maxRecDepth 100000
namespace DL
open PySem PySem.Spec PyProof.Rows L2
def lcR (g : TG) (tt : TT) (te : TE) (own : List Nat) (J : It) (σ : St) (H1 : Hp) (Q : VK) : Prop := ∀ D, H1 D = none → ∃ W : Nat → Nat → Hp → Prop, (∃ m, W 0 m (upd H1 D (.lst []))) ∧ ∀ i m H, W i m H →
  (J.stop i H ∧ Q (.ref D) H) ∨ (J.go i H ∧ ∃ Nx : Hp → Prop, (∀ H', Nx H' → ∃ m', m' < m ∧ W (i + 1) m' H') ∧ ∀ x H', J.yld i H x H' → g x (wipe σ own) H' fun σ2 H2 => wipe σ2 own = wipe σ own ∧ tt σ2 H2 fun b H3 =>
    if b = true then te σ2 H3 fun y H4 => ∃ acc, H4 D = some (.lst acc) ∧ acc.length < sizeLine ∧ Nx (upd H4 D (.lst (acc ++ [y]))) else Nx H3)
theorem OkS.plusT {K : PySem.W.Frag} {G0 H0 H : Hp} {W : List (T × V)} {ts : List T} {vs : List V} {env : Env} {σ : St} (S : OkS K G0 H0 W H ts vs env σ) : OkS K (plusT G0 H) H0 W H ts vs env σ ∧ Gst G0 H0 (plusT G0 H) := by
  obtain ⟨G, ot, oe, s⟩ := S
  have up : ∀ {G : Hp}, Same G H → Same G (DL.plusT G H) := fun {G} g a u e => by
    by_cases c : ∃ xs, u = .tup xs
    · obtain ⟨xs, rfl⟩ := c; exact plusT_tup (g a _ e)
    · rw [plusT_ne (fun xs z => by rw [g a u e] at z; cases z; exact c ⟨xs, rfl⟩)]; exact e
  have g := up s.gh
  refine ⟨⟨DL.plusT G H, ot, oe, s.tmp.mono g _ (fun _ _ => rfl), s.env.mono g _ (fun _ _ => rfl), s.nd, fun a ha => ⟨?_, (s.fr a ha).2⟩, fun a u e => ?_, fun a u e => ?_, s.h0, fun a u e => ?_, fun q hq => ?_⟩, up (s.g0.trans s.gh), fun a u e => ?_⟩
  · have thr : ∃ x, H a = some x ∧ ∀ xs, x ≠ .tup xs := by
      rcases List.mem_append.mp ha with h | h
      · exact s.tmp.there _ a h
      · exact s.env.there _ a h
    obtain ⟨x, ex, ne⟩ := thr
    rw [plusT_ne (fun xs z => by rw [ex] at z; cases z; exact ne xs rfl)]
    exact (s.fr a ha).1
  · rcases plusT_cases e with h | ⟨xs, rfl, h⟩
    · exact g a u (s.g0 a u h)
    · exact plusT_tup h
  · rcases plusT_cases e with h | ⟨xs, rfl, h⟩
    · exact s.gh a u h
    · exact h
  · rcases plusT_cases e with h | ⟨xs, rfl, h⟩
    · rcases s.nw a u h with z | z | z
      · refine .inl fun n => z ?_
        cases q : G0 a with
        | none => rfl
        | some y => rw [up (s.g0.trans s.gh) a y q] at n; cases n
      · exact .inr (.inl z)
      · exact .inr (.inr z)
    · exact .inr (.inr ⟨xs, rfl⟩)
  · obtain ⟨o, r⟩ := s.vw q hq
    exact ⟨o, r.mono g _ fun _ _ => rfl⟩
  · rcases plusT_cases e with h | ⟨xs, rfl, h⟩
    · exact .inl (by rw [h]; simp)
    · exact .inr (.inr ⟨xs, rfl⟩)
def mkT (kv : List Key × D) : D := .tup [.tup (kv.1.map kD), kv.2]
def iItT (f : EF) : IF := fun env => (f env).bind fun r => match r.1 with
  | .p (.dit kvs) => some (kvs.map mkT, r.2)
  | _ => none
theorem RpKt.get {K : PySem.W.Frag} {G : Hp} : ∀ {kvs : List (List Key × D)} {xs : List (List Key × V)}, RpKt K G kvs xs → ∀ (i : Nat) (k : List Key) (d : D), kvs[i]? = some (k, d) → ∃ v, xs[i]? = some (k, v) ∧ RpD K G d v
  | [], _, _, i, _, _, e => by simp at e
  | (k, d) :: kvs, _, ⟨v, r, h1, h2, h3⟩, 0, _, _, e => by
    simp at e; obtain ⟨rfl, rfl⟩ := e; subst h1; exact ⟨v, rfl, h2⟩
  | (k, d) :: kvs, _, ⟨v, r, h1, h2, h3⟩, i + 1, k', d', e => by
    subst h1
    obtain ⟨v', f1, f2⟩ := RpKt.get h3 i k' d' (by simpa using e)
    exact ⟨v', by simpa using f1, f2⟩
def tDicE (t : TE) : TE := fun σ H Q => t σ H Q ∨ tLockE t σ H Q
section
variable {X : Cx} {elt tg : Expr} {ifs : List Expr} {scope : Scope} {own : List (Str × Nat)} {pos spos py npos apos cpos tpos : Pos} {elts : List Expr} {kk : Nat} {x : Str} {g : Shared → Hp → Addr → List (Str × Addr) → List Addr → TG} {G : GF} {sl : List Nat} {tt : Shared → Hp → Addr → List (Str × Addr) → List Addr → TT} {ct : CF} {te : Shared → Hp → Addr → List (Str × Addr) → List Addr → TE} {fe : EF} {i : Nat} {y : Str}
end
end DL
set_option Elab.async false
set_option linter.all false
set_option maxRecDepth 100000
namespace DL
open PySem PySem.Spec PyProof.Rows L2
def rCatT : R2 := fun x y H Q => ∃ l b xs zs, x = .ref l ∧ y = .ref b ∧ H l = some (.tup xs) ∧ H b = some (.tup zs) ∧ xs ≠ [] ∧ zs ≠ [] ∧ xs.length + zs.length ≤ sizeLine ∧ ∀ p, H p = none → Q (.ref p) (upd H p (.tup (xs ++ zs)))
def tupP : T → Option (List D)
  | .p (.tup ds) => some ds
  | _ => none
def eCatT (fa fb : EF) : EF := fun env => (fa env).bind fun x => (fb x.2).bind fun y => (tupP x.1).bind fun ds => (tupP y.1).bind fun es =>
  if 0 < ds.length ∧ 0 < es.length ∧ ds.length + es.length ≤ 16777216 then some (.p (.tup (ds ++ es)), y.2) else none
end DL
set_option Elab.async false
set_option linter.all false
set_option maxRecDepth 100000
namespace DL
open PySem PySem.Spec PyProof.Rows L2
def strD : D → Option Str
  | .str s => some s
  | _ => none
def strsI : List D → Option (List Str)
  | [] => some []
  | d :: ds => (strD d).bind fun s => (strsI ds).map (s :: ·)
def ixQ [DecidableEq α] : List α → α → Option Nat
  | [], _ => none
  | s :: ss, t => if s = t then some 0 else (ixQ ss t).map (· + 1)
def strP : T → Option Str
  | .p (.str s) => some s
  | _ => none
def eIxL (fo fe : EF) : EF := fun env => (fo env).bind fun x => (fe x.2).bind fun y => (if isLT x.1 = true then itemsT x.1 else none).bind fun ds => (strsI ds).bind fun zs => (strP y.1).bind fun s => (ixQ zs s).map fun j => (.p (.int (j : Nat)), y.2)
end DL
set_option Elab.async false
set_option linter.all false
set_option maxRecDepth 100000
namespace DB
open PySem PySem.Spec PyProof.Rows L2
def intV : V → Int
  | .int i => i
  | _ => 0
def tSumVals (td : TE) : TE := fun σ H Q => td σ H fun x H1 => ∃ (a : Addr) (kvs : List (Key × V)) (is : List Int), x = V.ref a ∧ Rd H1 a (.dK kvs) ∧ kvs.map (·.2) = is.map V.int ∧ Q (.int is.sum) H1
variable {X : Cx} {o : Expr} {p pos apos mpos : Pos} {td : TE}
end DB
namespace DL
open PySem PySem.Spec PyProof.Rows L2
def intsK : List D → Option (List Int)
  | [] => some []
  | .int i :: r => (intsK r).map (i :: ·)
  | _ => none
def eSumV (f : EF) : EF := fun env => (f env).bind fun r => (dicT (unb r.1)).bind fun kvs => (intsK (kvs.map (·.2))).map fun is => (.p (.int is.sum), r.2)
end DL
namespace DL
open PySem PySem.Spec PyProof.Rows L2
theorem sIf_or (c d : CF) (A B : SF) : sIf (cOr c d) A B = sIf c A (sIf d A B) := by
  funext env
  unfold sIf cOr
  cases c env with
  | none => rfl
  | some r =>
    obtain ⟨b, e⟩ := r
    cases b <;> rfl
theorem ds_orF {X : Cx} {s : Stmt} {t : TS} {c d : CF} {A B : SF} {sl : List Nat} (h : DS X s t (sIf (cOr c d) A B) sl) : DS X s t (sIf c A (sIf d A B)) sl := by rw [← sIf_or]; exact h
end DL
set_option Elab.async false
set_option linter.all false
set_option maxRecDepth 100000
set_option maxHeartbeats 1000000
namespace DL
open PySem PySem.Spec PyProof.Rows L2
def spL (φ : List T → Option (T × List T)) (K : PySem.W.Frag) : Sp := fun vs H Q _ => ∃ (us : List T) (t : T) (us' : List T) (G : Hp) (o : List Addr), φ us = some (t, us') ∧ Same G H ∧ RpTs K G H us vs o ∧ o.Nodup ∧ (∀ a ∈ o, G a = none) ∧
  ∀ v G' H' o1 o2, Same G G' → Same G' H' → (∀ a u, a ∉ o → H a = some u → H' a = some u) → Rp K G' H' t v o1 → RpTs K G' H' us' vs o2 → (o1 ++ o2).Nodup → (∀ a ∈ o1 ++ o2, G' a = none ∧ (a ∈ o ∨ H a = none)) →
    (∀ a u, G' a = some u → G a ≠ none ∨ H a = none ∨ a ∈ o ∨ ∃ xs, u = .tup xs) → Q v H'
def backs : List Bool → List T → Env → Option (List T)
  | [], [], _ => some []
  | true :: m, _ :: us, some t :: env => (backs m us env).map (t :: ·)
  | false :: m, .p d :: us, _ :: env => (backs m us env).map (.p d :: ·)
  | _, _, _ => none
def startU (n : Nat) (us : List T) : Env := us.map some ++ List.replicate (n - us.length) none
def runL (m : List Bool) (n : Nat) (F : SF) (us : List T) : Option (T × List T) := if us.length = m.length then (F (startU n us)).bind fun r => (backs m us r.2).bind fun us' => match r.1 with
    | .rt t => some (t, us')
    | .nx => some (.p .non, us')
    | _ => none
  else none
theorem runL_len {m : List Bool} {n : Nat} {F : SF} {us : List T} {r : T × List T} (h : runL m n F us = some r) : us.length = m.length := by
  unfold runL at h
  by_cases hl : us.length = m.length
  · exact hl
  · rw [if_neg hl] at h; cases h
section
variable {K : PySem.W.Frag}
theorem rpE_startU {G H : Hp} {m : Nat} : ∀ {us : List T} {vs : List V} {o : List Addr}, RpTs K G H us vs o → RpE K G H (us.map some ++ List.replicate m none) (vs.map some ++ List.replicate m none) o
  | [], vs, o, ⟨h, h2⟩ => by
    subst h; subst h2
    show RpE K G H (List.replicate m none) (List.replicate m none) []
    induction m with
    | zero => exact ⟨rfl, rfl⟩
    | succ m ih => exact ⟨none, _, rfl, ih⟩
  | u :: us, _, _, ⟨v, r, o1, o2, h1, h2, h3, h4⟩ => by
    subst h1; subst h4
    exact ⟨v, _, o1, o2, rfl, h2, rpE_startU h3, rfl⟩
theorem backs_rp {G G' H H' : Hp} (e : Same G G') : ∀ {m : List Bool} {us us' : List T} {env : Env} {σ : St} {vs : List V} {o oe : List Addr}, backs m us env = some us' → RpE K G' H' env σ oe → RpTs K G H us vs o → (∀ i : Nat, m[i]? = some true → σ[i]? = (vs[i]?).map some) → ∃ o2 rest, RpTs K G' H' us' vs o2 ∧ oe.Perm (o2 ++ rest)
  | [], [], us', env, σ, vs, o, oe, h, hE, ⟨hv, _⟩, _ => by
    cases h
    exact ⟨[], oe, ⟨hv, rfl⟩, .refl _⟩
  | [], _ :: _, _, _, _, _, _, _, h, _, _, _ => by unfold backs at h; cases h
  | true :: _, [], _, _, _, _, _, _, h, _, _, _ => by unfold backs at h; cases h
  | false :: _, [], _, _, _, _, _, _, h, _, _, _ => by unfold backs at h; cases h
  | true :: m, u :: us, us', env, σ, vs, o, oe, h, hE, hT, hm => by
    cases env with
    | nil => unfold backs at h; cases h
    | cons x env =>
      cases x with
      | none => unfold backs at h; cases h
      | some t =>
        obtain ⟨us2, h1, h2⟩ := omap (show (backs m us env).map (t :: ·) = some us' from h)
        subst h2
        obtain ⟨v, r, p1, p2, q1, q2, q3, q4⟩ := hE
        obtain ⟨w, s, p3, p4, r1, r2, r3, r4⟩ := hT
        subst q1 r1 q4
        have ew : v = w := by
          have := hm 0 rfl
          exact Option.some.inj (Option.some.inj this)
        subst ew
        obtain ⟨o2, rest, k1, k2⟩ := backs_rp e h1 q3 r3 fun i hi => hm (i + 1) hi
        refine ⟨p1 ++ o2, rest, ⟨v, s, p1, o2, rfl, q2, k1, rfl⟩, ?_⟩
        rw [List.append_assoc]
        exact List.Perm.append_left _ k2
  | false :: m, u :: us, us', env, σ, vs, o, oe, h, hE, hT, hm => by
    cases u with
    | p d =>
      cases env with
      | nil => unfold backs at h; cases h
      | cons x env =>
        obtain ⟨us2, h1, h2⟩ := omap (show (backs m us env).map (T.p d :: ·) = some us' from h)
        subst h2
        obtain ⟨w, s, p3, p4, r1, r2, r3, r4⟩ := hT
        subst r1
        have hw : RpD K G' d w := RpD.mono e d r2.1
        cases x with
        | none =>
          obtain ⟨y, r, q1, q2⟩ := hE
          subst q1
          obtain ⟨o2, rest, k1, k2⟩ := backs_rp e h1 q2 r3 fun i hi => hm (i + 1) hi
          exact ⟨o2, rest, ⟨w, s, [], o2, rfl, ⟨hw, rfl⟩, k1, rfl⟩, k2⟩
        | some t =>
          obtain ⟨y, r, q0, q5, q1, q2, q3, q4⟩ := hE
          subst q1 q4
          obtain ⟨o2, rest, k1, k2⟩ := backs_rp e h1 q3 r3 fun i hi => hm (i + 1) hi
          exact ⟨o2, q0 ++ rest, ⟨w, s, [], o2, rfl, ⟨hw, rfl⟩, k1, rfl⟩, (List.Perm.append_left _ k2).trans (perm_mid _ _ _)⟩
    | _ => unfold backs at h; cases h
end
section
variable {P : Program} {w : World} {K : PySem.W.Frag} {mg : Str → Option Value} {base : Heap}
theorem okL {x qual : Str} {st : Stmt} {f : Addr} {fd : FuncData} {N ps : List Str} {k : Nat} {n : Nat} {m : List Bool} {Fb : SF} (F : Fun K x qual st f fd) (S : FnScope N ps (defScope st)) (hn : N.length = n) (hnp : ps.length = m.length)
    (hbody : ∀ (cdv : Value) (A : Around) (outer : List PySem.Env) (s : Shared) (H : Hp) (E : XK), Room k (A.deeper (envOfC qual (defScope st) s.heap.objs.size f cdv)) →
      ∃ t sl, DSs (cxOf CX0 P w K mg base N qual (defScope st) f cdv A outer s H E).nox (defBody st) t Fb sl ∧ ∀ i ∈ sl, m[i]? ≠ some true) : FnOk P w K mg base CX0 (k + 1) f fd ps (spL (runL m n Fb) K) := by
  refine F.ok S (fun vs H Q E h => ?_) (fun cdv A outer s H vs Q E hr h => ?_)
  · obtain ⟨us, t, us', G, o, h2, _, h4, _⟩ := h
    rw [h4.len, runL_len h2, hnp]
  · obtain ⟨us, t, us', G, o, h2, h3, h4, h5, h6, q⟩ := h
    obtain ⟨tr, sl, hd, h0⟩ := hbody cdv A outer s H E hr
    refine ⟨tr, hd.ps, ?_⟩
    have h1 := runL_len h2
    unfold runL at h2
    rw [if_pos h1] at h2
    obtain ⟨⟨fl, e1⟩, g1, g2⟩ := obind h2
    obtain ⟨us2, g3, g4⟩ := obind g2
    have env0 : RpE K G H (startU n us) (start N vs) o := by
      rw [L2_start, hn, h4.len]
      exact rpE_startU h4
    have S0 : OkS K G (fun a => if a ∈ o then none else H a) [] H [] [] (startU n us) (start N vs) := by
      refine ⟨G, [], o, ⟨rfl, rfl⟩, env0, by simpa using h5, fun a ha => ⟨h6 a (by simpa using ha), if_pos (by simpa using ha)⟩, Same.refl _, h3, fun a u e => ?_, fun a u e => .inl (by rw [e]; simp), fun q hq => by cases hq⟩
      by_cases c : a ∈ o
      · rw [if_pos c] at e; cases e
      · rw [if_neg c] at e; exact e
    have hlv : vs.length = m.length := by rw [h4.len, h1]
    have hσ0 : ∀ i : Nat, m[i]? = some true → (start N vs)[i]? = (vs[i]?).map some := fun i hi => by
      have hl : i < m.length := (List.getElem?_eq_some_iff.mp hi).1
      rw [L2_start, List.getElem?_append_left (by rw [List.length_map]; omega), List.getElem?_map]
    refine hd.ok G _ H [] [] _ _ fl e1 S0 g1 _ ?_
    have fin : ∀ (u : T) (v : V) (H' : Hp) (σ : St), OkS K G (fun a => if a ∈ o then none else H a) [] H' [u] [v] e1 σ → Dif sl (start N vs) σ → u = t → us2 = us' → Q v H' := fun u v H' σ S1 df e e2 => by
      subst e
      subst e2
      obtain ⟨G', ot, oe, s1⟩ := S1
      obtain ⟨w, r, o1, o2, a1, a2, a3, a4⟩ := s1.tmp
      cases a1
      have a5 : o2 = [] := a3.2
      subst a5
      rw [List.append_nil] at a4
      subst a4
      have hσ : ∀ i : Nat, m[i]? = some true → σ[i]? = (vs[i]?).map some := fun i hi => by
        rw [df.2 i (fun hm => h0 i hm hi)]
        exact hσ0 i hi
      obtain ⟨oA, oB, b1, b4⟩ := backs_rp s1.g0 g3 s1.env h4 hσ
      have nd : (ot ++ oA).Nodup := by
        have : (ot ++ oe).Perm ((ot ++ oA) ++ oB) := by rw [List.append_assoc]; exact List.Perm.append_left _ b4
        exact (List.nodup_append.mp (this.nodup_iff.mp s1.nd)).1
      have fr : ∀ a ∈ ot ++ oA, G' a = none ∧ (a ∈ o ∨ H a = none) := fun a ha => by
        have hm : a ∈ ot ++ oe := by
          rcases List.mem_append.mp ha with ha | ha
          · exact List.mem_append_left _ ha
          · exact List.mem_append_right _ (b4.mem_iff.mpr (List.mem_append_left _ ha))
        obtain ⟨c1, c2⟩ := s1.fr a hm
        refine ⟨c1, ?_⟩
        by_cases c : a ∈ o
        · exact .inl c
        · rw [if_neg c] at c2; exact .inr c2
      refine q v G' H' ot oA s1.g0 s1.gh (fun a u c e => s1.h0 a u (by rw [if_neg c]; exact e)) a2 b1 nd fr fun a u e => ?_
      rcases s1.nw a u e with c | c | c
      · exact .inl c
      · by_cases ca : a ∈ o
        · exact .inr (.inr (.inl ca))
        · rw [if_neg ca] at c; exact .inr (.inl c)
      · exact .inr (.inr (.inr c))
    cases fl with
    | nx =>
      have e : (T.p .non, us2) = (t, us') := Option.some.inj g4
      cases e
      exact fun H' σ' S1 df => fin _ _ H' σ' (S1.scal (z := .non) (u := .non) fun _ => rfl) df rfl rfl
    | rt u =>
      have e : (u, us2) = (t, us') := Option.some.inj g4
      cases e
      exact fun v H' σ' S1 df => fin _ _ H' σ' S1 df rfl rfl
    | bk => cases g4
    | ct => cases g4
end
def Link (ls : List (Option Nat)) (ws : List V) (σ : St) : Prop := ∀ j i : Nat, ls[j]? = some (some i) → ∃ v, ws[j]? = some v ∧ σ[i]? = some (some v)
def putL : List (Option Nat) → List T → Env → Env
  | some i :: ls, t :: us, env => putL ls us (env.set i (some t))
  | none :: ls, _ :: us, env => putL ls us env
  | _, _, env => env
structure DAL (X : Cx) (es : List Expr) (ta : TA) (f : AF) (ls : List (Option Nat)) : Prop where
  pa : PA X es ta
  ln : ls.length = es.length
  ok : ∀ (G0 H0 H : Hp) (ts : List T) (vs : List V) (env : Env) (σ : St) (us : List T) (env' : Env), OkS X.K G0 H0 [] H ts vs env σ → f env = some (us, env') →
    ∀ Q : List V → Hp → Prop, (∀ ws H', ws.length = us.length → ls.length = us.length → OkS X.K G0 H0 [] H' (us ++ ts) (ws ++ vs) env' σ → Link ls ws σ → Q ws H') → ta σ H Q
def eCallL (φ : List T → Option (T × List T)) (ls : List (Option Nat)) (fa : AF) : EF := fun env => (fa env).bind fun r => (φ r.1).bind fun z => if z.2.length = r.1.length then some (z.1, putL ls z.2 r.2) else none
section
variable {X : Cx} {e : Expr} {es : List Expr} {te : TE} {ta tr : TA} {f : EF} {fa fr : AF} {ls : List (Option Nat)} {pos p npos : Pos} {x : Str}
theorem dal_nil : DAL X [] tNil aN [] := ⟨pa_nil, rfl, fun G0 H0 H ts vs env σ us env' S e Q q => by
  cases e
  exact q [] H rfl rfl S fun j i h => by cases h⟩
theorem dal_t (h : DT X e te f) (hr : DAL X es tr fr ls) (hs : starEach (e :: es) X.env = (false, eval e X.env) :: starEach es X.env := by rfl) : DAL X (e :: es) (tCons te tr) (aC f fr) (none :: ls) := by
  refine ⟨pa_cons h.pe hr.pa hs, by rw [List.length_cons, List.length_cons, hr.ln], ?_⟩
  intro G0 H0 H ts vs env σ us env' S g Q q
  obtain ⟨⟨x, e1⟩, h1, h2⟩ := obind g
  obtain ⟨⟨y, e2⟩, h3, h4⟩ := omap h2
  cases h4
  refine h.ok _ _ _ _ _ _ _ _ _ _ S h1 _ fun v H1 s1 S1 => ?_
  refine hr.ok _ _ _ _ _ _ _ _ _ S1 h3 _ fun ws H2 hl hl2 S2 L => ?_
  refine q (v :: ws) H2 (by simp [hl]) (by simp [hl2]) (S2.mid hl) fun j i hj => ?_
  cases j with
  | zero => cases hj
  | succ j => exact L j i hj
theorem dal_m (i : Nat) (hr : DAL X es tr fr ls) (hN : X.N[i]? = some x := by rfl) (hv : Vis X.env.scope x := by first | exact Or.inl rfl | exact Or.inr (Or.inl rfl) | exact Or.inr (Or.inr rfl)) (hd : (x == ("__debug__" : Str)) = false := by decide)
    (hcd : (x == ("__classdict__" : Str)) = false := by decide) (hs : starEach (.Name x npos :: es) X.env = (false, eval (.Name x npos) X.env) :: starEach es X.env := by rfl) : DAL X (.Name x npos :: es) (tCons (tVar i) tr) (aC (eM i) fr) (some i :: ls) := by
  refine ⟨pa_cons (pe_var hN hv hd hcd) hr.pa hs, by rw [List.length_cons, List.length_cons, hr.ln], ?_⟩
  intro G0 H0 H ts vs env σ us env' S g Q q
  obtain ⟨⟨x, e1⟩, h1, h2⟩ := obind g
  obtain ⟨⟨y, e2⟩, h3, h4⟩ := omap h2
  cases h4
  unfold eM at h1
  cases h : env[i]? with
  | none => rw [h] at h1; cases h1
  | some z =>
    rw [h] at h1
    cases z with
    | none => cases h1
    | some u =>
      cases h1
      obtain ⟨v, hv, S1⟩ := S.get h
      refine ⟨v, hv, hr.ok _ _ _ _ _ _ _ _ _ S1 h3 _ fun ws H2 hl hl2 S2 L => ?_⟩
      refine q (v :: ws) H2 (by simp [hl]) (by simp [hl2]) (S2.mid hl) fun j k hj => ?_
      cases j with
      | zero => cases hj; exact ⟨v, rfl, hv⟩
      | succ j => exact L j k hj
end
theorem OkS.putL {K : PySem.W.Frag} {G0 H0 H : Hp} {W : List (T × V)} {ts : List T} {vs : List V} {σ : St} {t : T} {v : V} : ∀ {ls : List (Option Nat)} {us : List T} {ws : List V} {env : Env}, ls.length = us.length → ws.length = us.length → Link ls ws σ → OkS K G0 H0 W H (t :: (us ++ ts)) (v :: (ws ++ vs)) env σ → OkS K G0 H0 W H (t :: ts) (v :: vs) (DL.putL ls us env) σ
  | [], [], [], env, _, _, _, S => S
  | [], [], _ :: _, _, _, h, _, _ => by simp at h
  | [], _ :: _, _, _, h, _, _, _ => by simp at h
  | _ :: _, [], _, _, h, _, _, _ => by simp at h
  | _ :: _, _ :: _, [], _, _, h, _, _ => by simp at h
  | l :: ls, u :: us, w :: ws, env, h1, h2, L, S => by
    have S1 : OkS K G0 H0 W H (u :: ([t] ++ (us ++ ts))) (w :: ([v] ++ (ws ++ vs))) env σ := OkS.mid (us := [t]) (ws := [v]) rfl S
    have L2 : Link ls ws σ := fun j i hj => L (j + 1) i hj
    cases l with
    | none =>
      show OkS K G0 H0 W H (t :: ts) (v :: vs) (DL.putL ls us env) σ
      exact OkS.putL (ls := ls) (us := us) (ws := ws) (by simpa using h1) (by simpa using h2) L2 S1.pop
    | some i =>
      obtain ⟨z, e1, e2⟩ := L 0 i rfl
      have e1 : w = z := Option.some.inj e1
      subst e1
      have hl : i < env.length := by
        have := (List.getElem?_eq_some_iff.mp e2).1
        rw [S.len] at this; exact this
      have S2 := S1.put (i := i) hl
      rw [set_back e2] at S2
      show OkS K G0 H0 W H (t :: ts) (v :: vs) (DL.putL ls us (env.set i (some u))) σ
      exact OkS.putL (ls := ls) (us := us) (ws := ws) (by simpa using h1) (by simpa using h2) L2 S2
theorem OkS.lendL {K : PySem.W.Frag} {G0 H0 H : Hp} {ts us : List T} {vs ws : List V} {env : Env} {σ : St} (S : OkS K G0 H0 [] H (us ++ ts) (ws ++ vs) env σ) (hw : ws.length = us.length) : ∃ (G : Hp) (o : List Addr), Same G H ∧ RpTs K G H us ws o ∧ o.Nodup ∧ (∀ a ∈ o, G a = none) ∧
    ∀ (r : V) (G' H' : Hp) (p1 p2 : List Addr) (t' : T) (us' : List T), Same G G' → Same G' H' → (∀ a x, a ∉ o → H a = some x → H' a = some x) → Rp K G' H' t' r p1 → RpTs K G' H' us' ws p2 → (p1 ++ p2).Nodup → (∀ a ∈ p1 ++ p2, G' a = none ∧ (a ∈ o ∨ H a = none)) →
      (∀ a x, G' a = some x → G a ≠ none ∨ H a = none ∨ a ∈ o ∨ ∃ xs, x = .tup xs) → OkS K G0 H0 [] H' (t' :: (us' ++ ts)) (r :: (ws ++ vs)) env σ := by
  obtain ⟨G, ot, oe, s⟩ := S
  obtain ⟨o1, o5, k1, k2, k3⟩ := s.tmp.split hw
  subst k3
  have nd0 := s.nd
  rw [List.append_assoc] at nd0
  have fr0 : ∀ b ∈ o1 ++ (o5 ++ oe), G b = none ∧ H0 b = none := fun b hb => s.fr b (by rw [List.append_assoc]; exact hb)
  have thr : ∀ b ∈ o5 ++ oe, ∃ x, H b = some x ∧ ∀ xs, x ≠ .tup xs := fun b hb => by
    rcases List.mem_append.mp hb with h | h
    · exact k2.there _ b h
    · exact s.env.there _ b h
  refine ⟨G, o1, s.gh, k1, (List.nodup_append.mp nd0).1, fun a ha => (fr0 a (List.mem_append_left _ ha)).1, fun r G' H' p1 p2 t' us' g1 g2 g3 g4 g5 g6 g7 g8 => ?_⟩
  have out : ∀ b ∈ o5 ++ oe, b ∉ o1 := fun b hb h => (List.nodup_append.mp nd0).2.2 b h b hb rfl
  have kp : ∀ b ∈ o5 ++ oe, H' b = H b := fun b hb => by
    obtain ⟨x, e, _⟩ := thr b hb
    rw [e, g3 b x (out b hb) e]
  have t2 := k2.mono g1 _ (fun b hb => kp b (List.mem_append_left _ hb))
  have e2 := s.env.mono g1 _ (fun b hb => kp b (List.mem_append_right _ hb))
  have nin : ∀ a ∈ p1 ++ p2, ∀ b ∈ o5 ++ oe, a ≠ b := fun a ha b hb e => by
    subst e
    rcases (g7 a ha).2 with c | c
    · exact out a hb c
    · obtain ⟨x, ex, _⟩ := thr a hb
      rw [c] at ex; cases ex
  refine ⟨G', p1 ++ (p2 ++ o5), oe, ⟨r, _, p1, p2 ++ o5, rfl, g4, g5.append t2, rfl⟩, e2, ?_, fun a ha => ?_, s.g0.trans g1, g2, fun a x e => ?_, fun a x e => ?_, fun q hq => by cases hq⟩
  · rw [show p1 ++ (p2 ++ o5) ++ oe = (p1 ++ p2) ++ (o5 ++ oe) by simp]
    exact List.nodup_append.mpr ⟨g6, (List.nodup_append.mp nd0).2.1, fun a ha b hb => nin a ha b hb⟩
  · rw [show p1 ++ (p2 ++ o5) ++ oe = (p1 ++ p2) ++ (o5 ++ oe) by simp] at ha
    rcases List.mem_append.mp ha with ha | ha
    · obtain ⟨c1, c2⟩ := g7 a ha
      refine ⟨c1, ?_⟩
      rcases c2 with c2 | c2
      · exact (fr0 a (List.mem_append_left _ c2)).2
      · exact Same.none s.h0 c2
    · refine ⟨?_, (fr0 a (List.mem_append_right _ ha)).2⟩
      cases q : G' a with
      | none => rfl
      | some x =>
        obtain ⟨x', ex, ne⟩ := thr a ha
        rcases g8 a x q with z | z | z | ⟨xs, z⟩
        · exact absurd (fr0 a (List.mem_append_right _ ha)).1 z
        · rw [z] at ex; cases ex
        · exact absurd z (out a ha)
        · have := g2 a x q
          rw [g3 a x' (out a ha) ex] at this
          cases this
          exact absurd z (ne xs)
  · have na : a ∉ o1 := fun h => by rw [(fr0 a (List.mem_append_left _ h)).2] at e; cases e
    exact g3 a x na (s.h0 a x e)
  · rcases g8 a x e with z | z | z | z
    · cases q : G a with
      | none => exact absurd q z
      | some y =>
        have := g1 a y q
        rw [e] at this; cases this
        exact s.nw a x q
    · exact .inr (.inl (Same.none s.h0 z))
    · exact .inr (.inl (fr0 a (List.mem_append_left _ z)).2)
    · exact .inr (.inr z)
section
variable {X : Cx} {k : Nat} {f : Addr} {fd : FuncData} {ps : List Str} {φ : List T → Option (T × List T)} {x : Str} {p pos : Pos} {e a b : Expr} {es : List Expr} {te ta tb : TE} {tr : TA} {fa : AF} {ls : List (Option Nat)} {g f1 f2 : EF}
theorem dx_callL (F : FnOk X.prog X.w X.K X.mg X.base CX0 k f fd ps (spL φ X.K)) (hr : Room k X.A) (hg : Gl X x) (hm : X.mg x = some (.ref f)) (hk : PySem.W.keepIn X.K (.ref f) = true) (hb : Binds X.K fd ps [])
    (ha : DAL X (e :: es) tr fa ls) (hdb : (x == ("__debug__" : Str)) = false := by decide) (he : starEach (e :: es) X.env = (false, eval e X.env) :: starEach es X.env := by rfl) (hpl : (backTo pos (starEach es X.env)).any (·.1) = false := by rfl) :
    DX X (.Call (.Name x p) (e :: es) [] pos) (tCall (spL φ X.K) [] E0 tr) (eCallL φ ls fa) := by
  refine ⟨pe_call F hr hg hm hk hb .nil pass0 ha.pa hdb he hpl, ?_⟩
  intro G0 H0 H ts vs env σ t env' S g Q q
  obtain ⟨⟨us, e1⟩, g1, g2⟩ := obind g
  obtain ⟨⟨t1, us'⟩, g3, g4⟩ := obind g2
  dsimp only at g4
  by_cases hl' : us'.length = us.length
  · rw [if_pos hl'] at g4
    cases g4
    refine ha.ok _ _ _ _ _ _ _ _ _ S g1 _ fun ws H2 hl hl2 S2 L => ?_
    obtain ⟨G, o, h1, h2, h3, h4, h6⟩ := S2.lendL hl
    show spL φ X.K (ws ++ []) H2 Q E0
    rw [List.append_nil]
    refine ⟨us, t, us', G, o, g3, h1, h2, h3, h4, fun r G' H' p1 p2 c1 c2 c3 c4 c5 c6 c7 c8 => ?_⟩
    have S3 := h6 r G' H' p1 p2 t us' c1 c2 c3 c4 c5 c6 c7 c8
    exact q r H' (OkS.putL (by rw [hl2, hl']) (by rw [hl, hl']) L S3)
  · rw [if_neg hl'] at g4; cases g4
theorem dx_mod (ha : DX X a ta f1) (hb : DX X b tb f2) : DX X (.BinOp a .Mod b pos) (tOp (rI (fun _ j => 0 < j) fun i j => .int (i % j)) ta tb) (eOp gMod f1 f2) := dx_op op_mod (sc_int fun _ _ h => modOk_ok h) ha hb
theorem dx_cmp {op : CmpOp} {r : PySem.W.Frag → R2} {g : D → D → Option Bool} (ho : OpR X (compareOp op) (r X.K)) (hr : Cm2 r g) (ha : DX X a ta f1) (hb : DV X b tb f2) (hm : behindInMarks op b = false) : DX X (.Compare a [op] [b] pos) (tOp (r X.K) ta tb) (eCmp g f1 f2) := by
  refine ⟨pe_cmpR ho ha.pe hb.pe hm, ?_⟩
  intro G0 H0 H ts vs env σ t env' S e Q q
  obtain ⟨⟨x, e1⟩, h1, h2⟩ := obind e
  obtain ⟨⟨y, e2⟩, h3, h4⟩ := obind h2
  obtain ⟨c, h5, h6⟩ := omap h4
  cases h6
  refine ha.ok _ _ _ _ _ _ _ _ _ S h1 _ fun v H1 S1 => ?_
  refine hb.ok _ _ _ _ _ _ _ _ _ _ S1 h3 _ fun w H2 s2 S2 => ?_
  exact hr X.K H2 _ _ c v w Q h5 S2.unview.top (S2.see (q := (y, w)) (by simp)) (q _ H2 (S2.unview.pop.scal fun _ => rfl))
end
def EvCX (K : PySem.W.Frag) (tc : TT) (c : CF) : Prop := ∀ (G0 H0 H : Hp) (ts : List T) (vs : List V) (env : Env) (σ : St) (b : Bool) (env' : Env), OkS K G0 H0 [] H ts vs env σ → c env = some (b, env') →
  ∀ Q : Bool → Hp → Prop, (∀ H', OkS K G0 H0 [] H' ts vs env' σ → Q b H') → tc σ H Q
structure DCX (X : Cx) (e : Expr) (tc : TT) (c : CF) : Prop where
  pt : PT X e tc
  ok : EvCX X.K tc c
structure DWX (X : Cx) (e : Expr) (tc : TT) (c : CF) : Prop where
  pt : PW X e tc
  ok : EvCX X.K tc c
section
variable {X : Cx} {a b e : Expr} {rest : List Expr} {ta tb te : TE} {tc td : TT} {c d : CF} {f f1 f2 : EF} {pos : Pos}
theorem DC.dcx (h : DC X e tc c) : DCX X e tc c := ⟨h.pt, fun G0 H0 H ts vs env σ b env' S g Q q => h.ok _ _ _ _ _ _ _ _ _ _ S g Q fun H' _ S' => q H' S'⟩
theorem EvX.test {K : PySem.W.Frag} (h : EvX K te f) : EvCX K (tTest te) (cT f) := by
  intro G0 H0 H ts vs env σ b env' S e Q q
  obtain ⟨⟨x, e2⟩, g3, g4⟩ := obind e
  have hx : x = .p (.bl b) ∧ e2 = env' := by
    cases x with
    | p d => cases d with
      | bl c => cases g4; exact ⟨rfl, rfl⟩
      | _ => cases g4
    | _ => cases g4
  obtain ⟨rfl, rfl⟩ := hx
  exact h _ _ _ _ _ _ _ _ _ S g3 _ fun v H' S1 => ⟨b, S1.top, q H' S1.pop⟩
theorem dcx_cmp {op : CmpOp} {r : PySem.W.Frag → R2} {g : D → D → Option Bool} (ho : OpR X (compareOp op) (r X.K)) (hr : Cm2 r g) (ha : DX X a ta f1) (hb : DV X b tb f2) (hm : behindInMarks op b = false) : DCX X (.Compare a [op] [b] pos) (tTest (tOp (r X.K) ta tb)) (cT (eCmp g f1 f2)) := ⟨pt_cmpR ho ha.pe hb.pe hm, (dx_cmp (pos := pos) ho hr ha hb hm).ok.test⟩
theorem dcx_gt (ha : DX X a ta f1) (hb : DV X b tb f2) : DCX X (.Compare a [.Gt] [b] pos) (tTest (tOp (rI0 fun i j => .bl (decide (j < i))) ta tb)) (cT (eCmp cGt f1 f2)) := dcx_cmp (r := fun _ => rI0 fun i j => .bl (decide (j < i))) op_gt cm_int ha hb (nomark _)
theorem dwx_or1 (h : DCX X a tc c) : DWX X (.BoolOp .Or [a] pos) tc c := ⟨pw_or1 h.pt, h.ok⟩
theorem dwx_or (h : DCX X a tc c) (h2 : DWX X (.BoolOp .Or (b :: rest) pos) td d) : DWX X (.BoolOp .Or (a :: b :: rest) pos) (tOr tc td) (cOr c d) := by
  refine ⟨pw_or h.pt h2.pt, ?_⟩
  intro G0 H0 H ts vs env σ k env' S e Q q
  obtain ⟨⟨b, e1⟩, g1, g2⟩ := obind e
  refine h.ok _ _ _ _ _ _ _ _ _ S g1 _ fun H' S' => ?_
  cases b with
  | true => rw [if_pos rfl]; cases g2; exact q H' S'
  | false => rw [if_neg Bool.false_ne_true]; exact h2.ok _ _ _ _ _ _ _ _ _ S' g2 _ fun H2 S2 => q H2 S2
theorem DWX.dcx (h : DWX X e tc c) : DCX X e tc c := ⟨h.pt.pt, h.ok⟩
theorem ds_ifCX {x y : List Stmt} {t u : TS} {F1 F2 : SF} {sl sl2 : List Nat} (h : DCX X e tc c) (h1 : DSs X x t F1 sl) (h2 : DSs X y u F2 sl2) : DS X (.If e x y pos) (tIfS tc t u) (sIf c F1 F2) (sl ++ sl2) := by
  refine ⟨ps_if h.pt h1.ps h2.ps, ?_⟩
  intro G0 H0 H ts vs env σ fl env' S g D q
  obtain ⟨⟨b, e1⟩, g1, g2⟩ := obind g
  refine h.ok _ _ _ _ _ _ _ _ _ S g1 _ fun H' S' => ?_
  cases b with
  | true =>
    rw [if_pos rfl]
    refine h1.ok _ _ _ _ _ _ _ _ _ S' g2 D ?_
    cases fl with
    | nx => exact fun H2 σ2 S2 f2 => q H2 σ2 S2 f2.l
    | bk => exact fun H2 σ2 S2 f2 => q H2 σ2 S2 f2.l
    | ct => exact fun H2 σ2 S2 f2 => q H2 σ2 S2 f2.l
    | rt v => exact fun w H2 σ2 S2 f2 => q w H2 σ2 S2 f2.l
  | false =>
    rw [if_neg Bool.false_ne_true]
    refine h2.ok _ _ _ _ _ _ _ _ _ S' g2 D ?_
    cases fl with
    | nx => exact fun H2 σ2 S2 f2 => q H2 σ2 S2 f2.r
    | bk => exact fun H2 σ2 S2 f2 => q H2 σ2 S2 f2.r
    | ct => exact fun H2 σ2 S2 f2 => q H2 σ2 S2 f2.r
    | rt v => exact fun w H2 σ2 S2 f2 => q w H2 σ2 S2 f2.r
end
end DL
set_option Elab.async false
set_option linter.all false
set_option maxRecDepth 100000
set_option maxHeartbeats 1000000
namespace DL
open PySem PySem.Spec PyProof.Rows L2
def lookE (env : Env) : Env := env.map (Option.map fun t => T.p t.toD)
def eLook (f : EF) : EF := fun env => (f (lookE env)).bind fun r => if cleanV r.1 = true then some (r.1, env) else none
def eRepL (fa fb : EF) : EF := fun env => (fa env).bind fun x => (fb x.2).bind fun y => match x.1, y.1 with
  | .lst us, .p (.int k) => (allP us).bind fun ds => if -(2 ^ 63) ≤ k ∧ k < 2 ^ 63 ∧ ds.length * k.toNat ≤ 16777216 then some (.lst ((List.replicate k.toNat ds).flatten.map T.p), y.2) else none
  | _, _ => none
end DL
set_option Elab.async false
set_option linter.all false
set_option maxRecDepth 100000
set_option maxHeartbeats 1000000
namespace DL
open PySem PySem.Spec PyProof.Rows L2
def backW (i j : Nat) (ws : List Nat) (P : List Stp) (a : Addr) (s : Fl × Env) : Option (Fl × Env) := (backP i j P a s).map fun r => (r.1, wipeE r.2 ws)
open Classical in
noncomputable def sAlW (j i : Nat) (ws : List Nat) (fo : PF) (F : SF) : SF := fun env => (fo env).bind fun r => (atP r.2 i r.1).bind fun u => if isR u = true ∧ j < r.2.length then
  (if h : ∃ z, ∀ a : Addr, ((F ((putP r.2 i r.1 (.al (a + 1))).set j (some u))).bind (backW i j ws r.1 a)) = some z then some h.choose else none) else none
end DL
set_option Elab.async false
set_option linter.all false
set_option maxRecDepth 100000
set_option maxHeartbeats 1000000
namespace DL
open PySem PySem.Spec PyProof.Rows L2
section
variable {X : Cx} {elt tg : Expr} {ifs : List Expr} {scope : Scope} {own : List (Str × Nat)} {pos spos py npos apos cpos tpos : Pos} {elts : List Expr} {kk : Nat} {x : Str} {g : Shared → Hp → Addr → List (Str × Addr) → List Addr → TG} {G : GF} {sl : List Nat} {tt : Shared → Hp → Addr → List (Str × Addr) → List Addr → TT} {ct : CF} {te : Shared → Hp → Addr → List (Str × Addr) → List Addr → TE} {fe : EF} {i : Nat} {y : Str}
end
end DL
set_option Elab.async false
set_option linter.all false
set_option maxRecDepth 100000
set_option maxHeartbeats 1000000
namespace DL
open PySem PySem.Spec PyProof.Rows L2
section
variable {X : Cx} {elt tg : Expr} {ifs : List Expr} {scope : Scope} {own : List (Str × Nat)} {pos spos py npos apos cpos tpos : Pos} {elts : List Expr} {kk : Nat} {x : Str} {g : Shared → Hp → Addr → List (Str × Addr) → List Addr → TG} {G : GF} {sl : List Nat} {tt : Shared → Hp → Addr → List (Str × Addr) → List Addr → TT} {ct : CF} {te : Shared → Hp → Addr → List (Str × Addr) → List Addr → TE} {fe : EF} {i j : Nat} {y : Str}
end
end DL
set_option Elab.async false
set_option linter.all false
set_option maxRecDepth 100000
set_option maxHeartbeats 1000000
namespace DL
open PySem PySem.Spec PyProof.Rows L2
theorem evx_call {K : PySem.W.Frag} {n : Nat} {φ : List D → Option T} {ta : TA} {fa : AF} (hφ : ∀ ds t, φ ds = some t → ds.length = n) (ha : EvAX K ta fa) : EvX K (tCall (spD n φ K) [] E0 ta) (eCall φ fa) := by
  intro G0 H0 H ts vs env σ t env' S g Q q
  obtain ⟨⟨us, e1⟩, g1, g2⟩ := obind g
  obtain ⟨ds, g3, g4⟩ := obind g2
  obtain ⟨t', g5, g6⟩ := omap g4
  cases g6
  have eu := allP_eq g3
  have eu : us = ds.map T.p := eu
  subst eu
  refine ha _ _ _ _ _ _ _ _ _ S g1 _ fun ws H1 hl S1 => ?_
  obtain ⟨G, ot, oe, s⟩ := S1
  obtain ⟨o1, o2, k1, k2, k3⟩ := s.tmp.split hl
  obtain ⟨k4, k5⟩ := rpDs_of k1
  subst k5
  have k3 : ot = o2 := k3
  subst k3
  have s' : St0 K G0 H0 [] G H1 ts vs _ σ ot oe := ⟨k2, s.env, s.nd, s.fr, s.g0, s.gh, s.h0, s.nw, s.vw⟩
  refine ⟨ds, t, G, hφ _ _ g5, g5, s.gh, by rw [List.append_nil]; exact k4, fun v G' H' o h1 h2 h3 h4 h5 h6 h7 => ?_⟩
  exact q v H' (OkS.called s' h1 h2 h3 h4 h5 h6 h7)
section
variable {X : Cx} {k : Nat} {f : Addr} {fd : FuncData} {ps : List Str} {n : Nat} {φ : List D → Option T} {x : Str} {p npos pos : Pos} {e a b : Expr} {es : List Expr} {ta tb tr : TA} {fa fb fr : AF}
theorem dx_call (hφ : ∀ ds t, φ ds = some t → ds.length = n) (F : FnOk X.prog X.w X.K X.mg X.base CX0 k f fd ps (spD n φ X.K)) (hr : Room k X.A) (hg : Gl X x) (hm : X.mg x = some (.ref f)) (hk : PySem.W.keepIn X.K (.ref f) = true) (hb : Binds X.K fd ps [])
    (ha : DAX X (e :: es) ta fa) (hdb : (x == ("__debug__" : Str)) = false := by decide) (he : starEach (e :: es) X.env = (false, eval e X.env) :: starEach es X.env := by rfl) (hpl : (backTo pos (starEach es X.env)).any (·.1) = false := by rfl) :
    DX X (.Call (.Name x p) (e :: es) [] pos) (tCall (spD n φ X.K) [] E0 ta) (eCall φ fa) := ⟨pe_call F hr hg hm hk hb .nil pass0 ha.pa hdb he hpl, evx_call hφ ha.ok⟩
theorem dx_i2 {id : String} {g : Int → Int → Int} {r : List V → Hp → VK → Prop} (hc : CallR X (.builtin id) r) (hr : ∀ (i j : Int) (H : Hp) (Q : VK), Q (.int (g i j)) H → r [.int i, .int j] H Q) (hg : Gl X x) (hm : X.mg x = none) (hv : bootBuiltins x = some (.builtin id)) (h : DAX X (a :: es) ta fr)
    (hn : x ≠ "__name__" := by decide) (hdb : (x == ("__debug__" : Str)) = false := by decide) (he : starEach (a :: es) X.env = (false, eval a X.env) :: starEach es X.env := by rfl) (hpl : (backTo pos (starEach es X.env)).any (·.1) = false := by rfl) : DX X (.Call (.Name x p) (a :: es) [] pos) (tCB r ta) (eI2 g fr) := by
  refine ⟨pe_callB hc hg hm hv h.pa hn hdb he hpl, ?_⟩
  intro G0 H0 H ts vs env σ t env' S e Q q
  obtain ⟨⟨us, e1⟩, h1, h2⟩ := obind e
  dsimp only at h2
  split at h2
  · rename_i i j
    cases h2
    refine h.ok _ _ _ _ _ _ _ _ _ S h1 _ fun ws H1 hl S1 => ?_
    match ws, hl with
    | [w1, w2], _ =>
      have e1 : w1 = .int i := S1.top
      have S2 : OkS X.K G0 H0 [] H1 (.p (.int j) :: ts) (w2 :: vs) env' σ := S1.pop
      have e2 : w2 = .int j := S2.top
      rw [e1, e2]
      exact hr i j H1 Q (q _ H1 (S2.pop.scal fun _ => rfl))
  · cases h2
theorem dx_min2 (hc : X.calm = true) (hg : Gl X "min") (hm : X.mg "min" = none) (h : DAX X [a, b] tr fr) (hv : bootBuiltins "min" = some (.builtin "min") := by decide +kernel) (he : starEach [a, b] X.env = (false, eval a X.env) :: starEach [b] X.env := by rfl) (hpl : (backTo pos (starEach [b] X.env)).any (·.1) = false := by rfl) : DX X (.Call (.Name "min" npos) [a, b] [] pos) (tCB (fun xs H Q => ∃ i j, xs = [.int i, .int j] ∧ Q (.int (if j < i then j else i)) H) tr) (eI2 minI fr) := dx_i2 (call_min2 hc) hr_min hg hm hv h (by decide) (by decide) he hpl
end
section
variable {X : Cx} {a b : Expr} {ta tb : TE} {fa fb : EF} {pos : Pos}
theorem dx_ix (ha : DT X a ta fa) (hb : DX X b tb fb) (hs : PlainIx b := by exact fun _ _ => rfl) : DX X (.Subscript a b pos) (tOp (rIx X.K) ta tb) (eW (eIx fa fb)) := by
  refine ⟨pe_ix ix_seq ha.pe hb.pe hs, ?_⟩
  intro G0 H0 H ts vs env σ t env' S g Q q
  obtain ⟨⟨t0, e0⟩, gw, gz⟩ := obind g
  obtain ⟨⟨x, e1⟩, h1, h2⟩ := obind gw
  obtain ⟨⟨y, e2⟩, h3, h4⟩ := obind h2
  dsimp only at h4
  split at h4
  · rename_i i
    obtain ⟨t', h5, h6⟩ := omap h4
    cases h6
    refine ha.ok _ _ _ _ _ _ _ _ _ _ S h1 _ fun v H1 s1 S1 => ?_
    refine hb.ok _ _ _ _ _ _ _ _ _ S1 h3 _ fun w H2 S2 => ?_
    have ew : w = .int i := S2.top
    subst ew
    cases t0 with
    | p d =>
      cases gz
      rcases S2.pop.toview.ix h5 with ⟨a, xs, v', e1, e2, _, e3, S3⟩ | ⟨z, c, e1, e2, e3, e4⟩
      · rcases e2 with e2 | e2
        · exact .inl ⟨a, xs, i, v', e1, rfl, e2, e3, q _ H2 S3.ofview⟩
        · exact .inr (.inl ⟨a, xs, i, v', e1, rfl, e2, e3, q _ H2 S3.ofview⟩)
      · cases e4
        exact .inr (.inr ⟨z, i, c, e1, rfl, e2, e3, q _ H2 (S2.pop.pop.scal fun _ => rfl)⟩)
    | lst _ => cases gz
    | tup _ => cases gz
    | dic _ => cases gz
    | dit _ => cases gz
    | obj _ _ => cases gz
    | box _ _ => cases gz
    | al _ => cases gz
  · cases h4
theorem dx_ixL (ha : DX X a ta fa) (hb : DT X b tb fb) (hs : PlainIx b := by exact fun _ _ => rfl) : DX X (.Subscript a b pos) (tOp (rIx X.K) ta tb) (eW (eIx fa fb)) := by
  refine ⟨pe_ix ix_seq ha.pe hb.pe hs, ?_⟩
  intro G0 H0 H ts vs env σ t env' S g Q q
  obtain ⟨⟨t0, e0⟩, gw, gz⟩ := obind g
  obtain ⟨⟨x, e1⟩, h1, h2⟩ := obind gw
  obtain ⟨⟨y, e2⟩, h3, h4⟩ := obind h2
  dsimp only at h4
  split at h4
  · rename_i i
    obtain ⟨t', h5, h6⟩ := omap h4
    cases h6
    refine ha.ok _ _ _ _ _ _ _ _ _ S h1 _ fun v H1 S1 => ?_
    refine hb.ok _ _ _ _ _ _ _ _ _ _ S1 h3 _ fun w H2 s2 S2 => ?_
    have ew : w = .int i := S2.top
    subst ew
    cases t0 with
    | p d =>
      cases gz
      rcases S2.pop.toview.ix h5 with ⟨a, xs, v', e1, e2, _, e3, S3⟩ | ⟨z, c, e1, e2, e3, e4⟩
      · rcases e2 with e2 | e2
        · exact .inl ⟨a, xs, i, v', e1, rfl, e2, e3, q _ H2 S3.ofview⟩
        · exact .inr (.inl ⟨a, xs, i, v', e1, rfl, e2, e3, q _ H2 S3.ofview⟩)
      · cases e4
        exact .inr (.inr ⟨z, i, c, e1, rfl, e2, e3, q _ H2 (S2.pop.pop.scal fun _ => rfl)⟩)
    | lst _ => cases gz
    | tup _ => cases gz
    | dic _ => cases gz
    | dit _ => cases gz
    | obj _ _ => cases gz
    | box _ _ => cases gz
    | al _ => cases gz
  · cases h4
end
def EvIX (K : PySem.W.Frag) (wi : TI) (f : IF) : Prop := ∀ (G0 H0 : Hp) (H : Hp) (ts : List T) (vs : List V) (env : Env) (σ : St) (ds : List D) (env' : Env), OkS K G0 H0 [] H ts vs env σ → f env = some (ds, env') →
  ∀ R : It → Hp → Prop, (∀ J H' G1, Gst G0 H0 G1 → ItOk K G1 J ds → OkS K G1 H0 [] H' ts vs env' σ → R J H') → wi σ H R
structure DIX (X : Cx) (tg it : Expr) (wi : TI) (f : IF) : Prop where
  pi : PI X tg it wi
  ok : EvIX X.K wi f
theorem ds_forDX {X : Cx} {tg iter : Expr} {body : List Stmt} {wi : TI} {f : IF} {g : TG} {G : GF} {tb : TS} {F : SF} {pos : Pos} {sl sl2 : List Nat} (hp : PassesOwn (model X.prog X.w) X.A X.env X.xe) (hc : X.calm = true) (hi : DIX X tg iter wi f) (hg : DG X tg g G sl) (hb : DSs X body tb F sl2)
    (hs : ∀ x, foldedSetIterable iter X.env x = pure x := by intro _; rfl) : DS X (.For tg iter body [] pos) (tFor wi g tb) (sFor f G F) (sl ++ sl2) := by
  refine ⟨ps_for hp hc hi.pi hg.pg hb.ps hs, ?_⟩
  intro G0 H0 H ts vs env σ fl env' S e D q
  obtain ⟨⟨ds, e1⟩, g1, g2⟩ := obind e
  refine hi.ok _ _ _ _ _ _ _ _ _ S g1 _ fun J H1 G1 gst I S1 => ?_
  refine ⟨fun i m σ2 H => m = ds.length - i ∧ i ≤ ds.length ∧ Dif (sl ++ sl2) σ σ2 ∧ ∃ env, OkS X.K G1 H0 [] H ts vs env σ2 ∧ loopD G F (ds.drop i) env = some (fl, env'), ⟨ds.length, by simp, Nat.zero_le _, .rfl', e1, S1, by simpa using g2⟩, ?_⟩
  rintro i m σ2 H2 ⟨rfl, hle, df, env2, S2, hl⟩
  by_cases hlt : i < ds.length
  · refine .inr ⟨I.go i H2 S2.same hlt, fun σ' H' => i + 1 ≤ ds.length ∧ Dif (sl ++ sl2) σ σ' ∧ ∃ env, OkS X.K G1 H0 [] H' ts vs env σ' ∧ loopD G F (ds.drop (i + 1)) env = some (fl, env'), fun σ' H' ⟨h1, h2⟩ => ⟨ds.length - (i + 1), by omega, rfl, h1, h2⟩, fun x H3 y => ?_⟩
    obtain ⟨s3, S3⟩ := I.item S2 (List.getElem?_eq_getElem hlt) y
    rw [List.drop_eq_getElem_cons hlt] at hl
    obtain ⟨e2, l1, l2⟩ := obind hl
    obtain ⟨⟨fl2, e3⟩, l3, l4⟩ := obind l2
    refine hg.ok _ _ _ _ _ _ _ _ _ _ _ S3 l1 _ fun σ' S' f1 => ?_
    refine hb.ok _ _ _ _ _ _ _ _ _ S' l3 _ ?_
    cases fl2 with
    | nx => exact fun H' σ4 S4 f2 => ⟨hlt, df.two (f1.tr f2), e3, S4, l4⟩
    | ct => exact fun H' σ4 S4 f2 => ⟨hlt, df.two (f1.tr f2), e3, S4, l4⟩
    | bk => cases l4; exact fun H' σ4 S4 f2 => q H' σ4 (S4.back gst) (df.two (f1.tr f2))
    | rt t => cases l4; exact fun v H' σ' S4 f2 => q v H' σ' (S4.back gst) (df.two (f1.tr f2))
  · have hi' : i = ds.length := by omega
    subst hi'
    rw [List.drop_length] at hl
    cases hl
    exact .inl ⟨I.stop H2 S2.same, q H2 σ2 (S2.back gst) df⟩
theorem dix_range1 {X : Cx} {tg a : Expr} {ta : TA} {f : AF} {p pos : Pos} (hg : Gl X "range") (hm : X.mg "range" = none) (h : DAX X [a] ta f) (hs : starEach [a] X.env = [(false, eval a X.env)] := by rfl) : DIX X tg (.Call (.Name "range" p) [a] [] pos) (iRng1 ta) (iR1 f) := by
  refine ⟨pi_range1 hg hm h.pa hs, ?_⟩
  intro G0 H0 H ts vs env σ ds env' S g R r
  obtain ⟨⟨us, e1⟩, g1, g2⟩ := obind g
  refine h.ok _ _ _ _ _ _ _ _ _ S g1 _ fun ws H1 hl S1 => ?_
  dsimp only at g2
  split at g2
  · rename_i j
    by_cases hj : j < 4611686018427387904 ∧ -4611686018427387904 ≤ j
    · rw [if_pos hj] at g2
      cases g2
      cases ws with
      | nil => simp at hl
      | cons w ws =>
        cases ws with
        | cons _ _ => simp at hl
        | nil =>
          have ew : w = .int j := S1.top
          obtain ⟨G1, gst, sG, S2⟩ := OkS.fix (show OkS X.K G0 H0 [] H1 ts vs _ σ from S1.pop)
          exact ⟨j, by rw [ew], by omega, by omega, r _ _ G1 gst itOk_r S2⟩
    · rw [if_neg hj] at g2; cases g2
  · cases g2
end DL
set_option Elab.async false
set_option linter.all false
set_option maxRecDepth 100000
set_option maxHeartbeats 1000000
namespace DL
open PySem PySem.Spec PyProof.Rows L2
def sAugP (hh : Int → Int → Int) (i : Nat) (fo : PF) (fk f : EF) : SF := fun env => (fo env).bind fun r => (fk r.2).bind fun s => (asI s.1).bind fun j => if 0 ≤ j then (atP s.2 i r.1).bind fun t0 => match unb t0 with
  | .lst us0 => (atI us0 j).bind fun u => (asI u).bind fun x0 => (f s.2).bind fun y => (asI y.1).bind fun y0 => (atP y.2 i r.1).bind fun t1 => match unb t1 with
    | .lst us => (ixN us.length j).map fun m => (.nx, putP y.2 i r.1 (reb t1 (.lst (us.set m (.p (.int (hh x0 y0)))))))
    | _ => none
  | _ => none
  else none
section
variable {X : Cx} {e o k : Expr} {te to tk : TE} {f fk : EF} {fo : PF} {i : Nat} {pos ipos tpos : Pos}
theorem ds_augP {op : Operator} {hh : Int → Int → Int} (hop : PIp X op (ipI hh)) (ho : DP X o to i fo) (hk : DT X k tk fk) (h : DT X e te f)
    (ha : ∀ ov iv new, augStore k ov iv new = (do holding [new, ov, iv] (setItem ov iv new); release [new, ov, iv] []; pure .next) := by intros; rfl) : DS X (.AugAssign (.Subscript o k tpos) op e pos) (tAugS to tk te (rGetL X.K) (ipI hh) rSetL) (sAugP hh i fo fk f) [] := by
  refine ⟨ps_augS ho.pe hk.pe get_list h.pe hop set_list ha, ?_⟩
  intro G0 H0 H ts vs env σ fl env' S g D q
  obtain ⟨⟨P, e1⟩, g1, g2⟩ := obind g
  obtain ⟨⟨z, e2⟩, g3, g4⟩ := obind g2
  obtain ⟨kk, g5, g6⟩ := obind g4
  have ez : z = .p (.int kk) := asI_eq g5
  subst ez
  by_cases h0 : 0 ≤ kk
  · rw [if_pos h0] at g6
    obtain ⟨t0, g7, g8⟩ := obind g6
    dsimp only at g8
    split at g8
    · rename_i us0 hu0
      obtain ⟨u, g9, g10⟩ := obind g8
      obtain ⟨x0, g11, g12⟩ := obind g10
      obtain ⟨⟨y, e3⟩, g13, g14⟩ := obind g12
      obtain ⟨y0, g15, g16⟩ := obind g14
      obtain ⟨t1, g17, g18⟩ := obind g16
      dsimp only at g18
      split at g18
      · rename_i us hun
        obtain ⟨m, g19, g20⟩ := omap g18
        cases g20
        have eu := asI_eq g11
        subst eu
        have ey : y = .p (.int y0) := asI_eq g15
        subst ey
        refine ho.ok _ _ _ _ _ _ _ _ _ _ S g1 _ fun v w H1 s1 S1 hv hc => ?_
        refine hk.ok _ _ _ _ _ _ _ _ _ _ S1 g3 _ fun kx H2 s2 S2 => ?_
        have ek : kx = .int kk := S2.top
        subst ek
        have hc2 := hc.same s2
        obtain ⟨tt0, k1, k2⟩ := atP_eq g7
        obtain ⟨G, o1, r, sG⟩ := S2.pop.at' k1 k2 hv hc2
        have r := r.unb
        rw [hu0] at r
        obtain ⟨a, ws0, o', h1, h2, h3, h4⟩ := r
        subst h1
        obtain ⟨jj, j1, j2⟩ := atI_ix g9
        obtain ⟨v', o3, c0, c2⟩ := h3.get j2
        have ew0 : v' = .int x0 := c2.1
        subst ew0
        have c1 : atI ws0 kk = some (.int x0) := atI_of j1 h3.len c0
        refine ⟨a, ws0, kk, .int x0, rfl, rfl, .inl (.inl h2), h0, c1, ?_⟩
        refine h.ok _ _ _ _ _ _ _ _ _ _ S2.pop g13 _ fun y2 H3 s3 S3 => ?_
        have ey2 : y2 = .int y0 := S3.top
        refine ⟨x0, y0, rfl, ey2, ?_⟩
        obtain ⟨tt, k3, k4⟩ := atP_eq g17
        obtain ⟨G2, p1', p2', r1, r2, nd, sG2, fr, wr⟩ := OkS.wr (es := []) (ws := []) S3.pop rfl k3 k4 hv (hc2.same s3)
        have ru := r1.unb
        rw [hun] at ru
        obtain ⟨a', xs, o2, h1', h2', h3', h4'⟩ := ru
        cases h1'
        subst h4'
        have e2' : p2' = [] := r2.2
        subst e2'
        have na : a ∉ o2 := fun hm => (List.nodup_cons.mp (show (a :: (o2 ++ [])).Nodup from nd)).1 (by simp [hm])
        have hm : m < us.length := (ixN_seq g19).2.1
        refine ⟨a, xs, kk, m, rfl, rfl, h2', by rw [h3'.len]; exact g19, ?_⟩
        have m1 := h3'.mono (Same.refl G2) (H' := upd H3 a (.lst (xs.set m (.int (hh x0 y0))))) _ (wN na)
        obtain ⟨o5, rest, f1, f2⟩ := m1.set (i := m) hm (show Rp X.K G2 _ (.p (.int (hh x0 y0))) (.int (hh x0 y0)) [] from ⟨rfl, rfl⟩)
        have S4 := wr a (.lst (xs.set m (.int (hh x0 y0)))) (reb t1 (.lst (us.set m (.p (.int (hh x0 y0)))))) [] [] (a :: o5) [] rest (by simp) (r1.reb ⟨a, _, _, rfl, upd_same, f1, rfl⟩) ⟨rfl, rfl⟩ (by
          simp only [List.cons_append, List.append_nil] at f2 ⊢
          exact List.Perm.cons a f2)
        rw [← putP_eq k3] at S4
        exact q _ _ S4 .rfl'
      · cases g18
    · cases g8
  · rw [if_neg h0] at g6; cases g6
end
end DL
set_option Elab.async false
set_option linter.all false
set_option maxRecDepth 100000
set_option maxHeartbeats 1000000
namespace DL
open PySem PySem.Spec PyProof.Rows L2
theorem toDs_p2 : ∀ us : List T, (T.toDs us).map T.p = us.map fun u => T.p u.toD
  | [] => rfl
  | u :: us => by
    show T.p u.toD :: (T.toDs us).map T.p = _
    rw [toDs_p2 us]; rfl
section
variable {K : PySem.W.Frag} {G0 H0 H : Hp} {W : List (T × V)} {ts us : List T} {vs : List V} {env : Env} {σ : St} {v : V}
theorem OkS.frzI (S : OkS K G0 H0 W H (.lst us :: ts) (v :: vs) env σ) : OkS K G0 H0 W H (.lst (us.map fun u => .p u.toD) :: ts) (v :: vs) env σ := by
  obtain ⟨G, ot, oe, s⟩ := S
  obtain ⟨u, r, o1, o2, h1, h2, h3, h4⟩ := s.tmp
  cases h1
  subst h4
  obtain ⟨a, xs, o', e1, e2, e3, e4⟩ := h2
  subst e4
  have nd : (a :: (o' ++ (o2 ++ oe))).Nodup := by have := s.nd; simpa [List.append_assoc] using this
  obtain ⟨na, nd'⟩ := List.nodup_cons.mp nd
  have gn : ∀ b ∈ o', G b = none := fun b hb => (s.fr b (by simp [hb])).1
  have sm : Same G (fun b => if b ∈ o' then H b else G b) := fun b u e => by
    show (if b ∈ o' then H b else G b) = _
    by_cases hb : b ∈ o'
    · rw [gn b hb] at e; cases e
    · rw [if_neg hb]; exact e
  have hf := e3.flat sm (fun b hb => if_pos hb)
  refine ⟨fun b => if b ∈ o' then H b else G b, a :: o2, oe, ⟨v, vs, [a], o2, rfl, ⟨a, xs, [], e1, e2, by rw [← toDs_p2]; exact rpTs_p hf, rfl⟩, h3.mono sm _ (fun _ _ => rfl), rfl⟩, s.env.mono sm _ (fun _ _ => rfl), ?_, fun b hb => ?_, ?_, fun b u e => ?_, s.h0, fun b u e => ?_, fun q hq => ?_⟩
  · show (a :: (o2 ++ oe)).Nodup
    exact List.nodup_cons.mpr ⟨fun h => na (List.mem_append_right _ h), (List.nodup_append.mp nd').2.1⟩
  · have hb : b = a ∨ b ∈ o2 ++ oe := by simpa using hb
    have hx := s.fr b (by rcases hb with rfl | hb <;> simp_all)
    refine ⟨?_, hx.2⟩
    show (if b ∈ o' then H b else G b) = none
    have : b ∉ o' := by
      rcases hb with rfl | hb
      · exact fun z => na (List.mem_append_left _ z)
      · exact fun z => (List.nodup_append.mp nd').2.2 b z b hb rfl
    rw [if_neg this]; exact hx.1
  · intro b u e; exact sm b u (s.g0 b u e)
  · have e' : (if b ∈ o' then H b else G b) = some u := e
    by_cases hb : b ∈ o'
    · rw [if_pos hb] at e'; exact e'
    · rw [if_neg hb] at e'; exact s.gh b u e'
  · have e' : (if b ∈ o' then H b else G b) = some u := e
    by_cases hb : b ∈ o'
    · exact .inr (.inl (s.fr b (by simp [hb])).2)
    · rw [if_neg hb] at e'; exact s.nw b u e'
  · obtain ⟨o, h⟩ := s.vw q hq
    exact ⟨o, h.mono sm _ fun _ _ => rfl⟩
end
def sFzI (i : Nat) (F : SF) : SF := fun env => match env[i]? with
  | some (some (.lst us)) => F (env.set i (some (.lst (us.map fun u => .p u.toD))))
  | _ => none
theorem dss_fzI {X : Cx} {st : List Stmt} {tb : TS} {F : SF} {sl : List Nat} (i : Nat) (h : DSs X st tb F sl) : DSs X st tb (sFzI i F) sl := by
  refine ⟨h.ps, ?_⟩
  intro G0 H0 H ts vs env σ fl env' S g D q
  unfold sFzI at g
  split at g
  · rename_i us he
    obtain ⟨v, hv, S1⟩ := S.get he
    have hl : i < env.length := (List.getElem?_eq_some_iff.mp he).1
    have S2 := S1.frzI.put (i := i) (by simpa using hl)
    rw [List.set_set, set_back hv] at S2
    exact h.ok _ _ _ _ _ _ _ _ _ S2 g D q
  · cases g
end DL
set_option Elab.async false
set_option linter.all false
set_option maxRecDepth 100000
set_option maxHeartbeats 4000000
namespace K53
noncomputable section
open PySem PySem.Spec PyProof.Rows L2 DL
def F_law_draw : SF :=
  (sSeq (sSet 2 (eC (.int 0)))
  (sSeq (sIf (cT (eCmp cGt (eB1 gLen (eB 0)) (eC (.int 0)))) (sSet 2 (eW (eIx (eB 0) (eOp gMod (eV 1) (eB1 gLen (eB 0)))))) sNx)
  (sSeq (sSet 3 (eOp gAdd (eC (.int 91343852333181432387730302044767688731)) (eOp gMul (eOp gMul (eC (.int 7919000003)) (eV 1)) (eV 1))))
  (sRet (eOp gMod (eOp gMul (eOp gAdd (eOp gAdd (eV 2) (eV 1)) (eC (.int 1))) (eV 3)) (eC (.int 170141183460469231731687303715884105727)))))))
def phi_law_draw : List D → Option T := runF 4 2 F_law_draw
def F_law_next : SF :=
  (sSeq (sPut 1 (eC (.int 0)) (eOp gAdd (eW (eIx (eB 1) (eC (.int 0)))) (eC (.int 1))))
  (sRet (eCall phi_law_draw (aC (eV 0) (aC (eW (eIx (eB 1) (eC (.int 0)))) aN)))))
def phi_law_next : List T → Option (T × List T) := runL [false, true] 2 F_law_next
def F_law_keywords : SF :=
  (sSeq (sSet 0 (eC (.str (PySem.Str.ofString "pool claim pot eat order part pay share repay fill lend back rest look guard debt on late early quit"))))
  (sRet (eSplit (eV 0) (eC (.str (PySem.Str.ofString " "))))))
def phi_law_keywords : List D → Option T := runF 1 0 F_law_keywords
def F_law_name : SF :=
  (sSeq (sSet 2 (eC (.str (PySem.Str.ofString "abcdefghijklmnopqrstuvwxyz"))))
  (sSeq (sSet 3 (eOp gAdd (eC (.int 2)) (eOp gMod (eV 0) (eC (.int 6)))))
  (sSeq (sSet 4 (eOp gMod (eOp gDiv (eV 0) (eC (.int 6))) (eOp gSub (eV 3) (eC (.int 1)))))
  (sSeq (sSet 5 (eJoin (eC (.str (PySem.Str.ofString ""))) (eComp [6] (iR1 (aC (eV 3) aN)) (gNm 6) cYes (eW (eIx (eB 2) (eOp gMod (eOp gAdd (eOp gDiv (eV 0) (eC (.int 42))) (eOp gMul (eOp gMul (eV 6) (eV 6)) (eOp gMod (eOp gDiv (eV 0) (eC (.int 1100))) (eC (.int 5))))) (eC (.int 26))))))))
  (sSeq (sSet 7 (eOp gAdd (eW (eIx (eB 2) (eOp gMod (eOp gAdd (eOp gDiv (eV 0) (eC (.int 7))) (eOp gDiv (eV 1) (eC (.int 26)))) (eC (.int 26))))) (eW (eIx (eB 2) (eOp gMod (eOp gAdd (eOp gDiv (eV 0) (eC (.int 3))) (eV 1)) (eC (.int 26)))))))
  (sSeq (sSet 5 (eOp gAdd (eOp gAdd (eSl (eB 5) oN (oS (eV 4))) (eV 7)) (eSl (eB 5) (oS (eOp gAdd (eV 4) (eC (.int 2)))) oN)))
  (sSeq (sIf (cT (eCmp inQ (eB 5) (eCall phi_law_keywords aN))) (sSet 5 (eOp gAdd (eV 5) (eC (.str (PySem.Str.ofString "z"))))) sNx)
  (sRet (eM 5)))))))))
def phi_law_name : List D → Option T := runF 8 2 F_law_name
def F_law_coins : SF :=
  (sSeq (sIf (cT (eCmp eqQ (eOp gMod (eV 0) (eC (.int 4))) (eC (.int 0)))) (sRet (eW (eIx (eL (aC (eC (.int 1)) (aC (eOp gPow (eC (.int 10)) (eC (.int 12))) aN))) (eOp gMod (eOp gDiv (eV 0) (eC (.int 4))) (eC (.int 2)))))) sNx)
  (sSeq (sIf (cT (eCmp eqQ (eOp gMod (eV 0) (eC (.int 4))) (eC (.int 1)))) (sRet (eOp gAdd (eC (.int 1)) (eOp gMod (eOp gDiv (eV 0) (eC (.int 4))) (eC (.int 20))))) sNx)
  (sRet (eOp gAdd (eC (.int 1)) (eOp gMod (eOp gDiv (eV 0) (eC (.int 4))) (eOp gPow (eC (.int 10)) (eC (.int 12))))))))
def phi_law_coins : List D → Option T := runF 1 1 F_law_coins
def F_law_rule : SF :=
  (sSeq (sSet 4 (eOp gMod (eV 0) (eC (.int 7))))
  (sSeq (sSet 5 (eB1 gLen (eB 1)))
  (sSeq (sSet 6 (eW (eIx (eIx (eB 1) (eOp gMod (eOp gDiv (eV 0) (eC (.int 7))) (eV 5))) (eC (.int 0)))))
  (sSeq (sIf (cAnd (cT (eCmp eqQ (eB 4) (eC (.int 1)))) (cT (eCmp cGt (eB 5) (eC (.int 1))))) (sSeq (sSet 7 (eOp gAdd (eC (.int 2)) (eOp gMod (eOp gDiv (eV 0) (eC (.int 50))) (eOp gSub (eV 5) (eC (.int 1))))))
  (sRet (eT (aC (eC (.str (PySem.Str.ofString "share"))) (aC (eTuple (eComp [8] (iR1 (aC (eV 7) aN)) (gNm 8) cYes (eW (eIx (eIx (eB 1) (eOp gMod (eOp gAdd (eOp gDiv (eV 0) (eC (.int 400))) (eV 8)) (eV 5))) (eC (.int 0)))))) aN))))) sNx)
  (sSeq (sIf (cT (eCmp eqQ (eB 4) (eC (.int 2)))) (sRet (eT (aC (eC (.str (PySem.Str.ofString "repay"))) (aC (eM 6) aN)))) sNx)
  (sSeq (sIf (cAnd (cT (eCmp eqQ (eB 4) (eC (.int 3)))) (cT (eCmp cGt (eB1 gLen (eB 2)) (eC (.int 0))))) (sRet (eT (aC (eC (.str (PySem.Str.ofString "fill"))) (aC (eW (eIx (eIx (eB 2) (eOp gMod (eOp gDiv (eV 0) (eC (.int 50))) (eB1 gLen (eB 2)))) (eC (.int 0)))) aN)))) sNx)
  (sSeq (sIf (cAnd (cT (eCmp eqQ (eB 4) (eC (.int 4)))) (cT (eCmp cGt (eB1 gLen (eB 3)) (eC (.int 0))))) (sRet (eT (aC (eC (.str (PySem.Str.ofString "lend"))) (aC (eW (eIx (eB 3) (eOp gMod (eOp gDiv (eV 0) (eC (.int 50))) (eB1 gLen (eB 3))))) (aC (eCall phi_law_coins (aC (eOp gDiv (eV 0) (eC (.int 400))) aN)) aN))))) sNx)
  (sSeq (sIf (cAnd (cT (eCmp eqQ (eB 4) (eC (.int 5)))) (cT (eCmp cGt (eB1 gLen (eB 3)) (eC (.int 0))))) (sRet (eT (aC (eC (.str (PySem.Str.ofString "back"))) (aC (eW (eIx (eB 3) (eOp gMod (eOp gDiv (eV 0) (eC (.int 50))) (eB1 gLen (eB 3))))) aN)))) sNx)
  (sRet (eT (aC (eC (.str (PySem.Str.ofString "pay"))) (aC (eM 6) aN))))))))))))
def phi_law_rule : List D → Option T := runF 9 4 F_law_rule
def B_law_order_1 : SF :=
  (sAppP 8 (pNm 8) (eFz (eT (aC (eW (eIx (eIx (eB 3) (eOp gMod (eOp gAdd (eOp gDiv (eV 6) (eC (.int 100))) (eV 9)) (eV 7))) (eC (.int 0)))) (aC (eOp gAdd (eC (.int 1)) (eOp gMod (eCallL phi_law_next [none, some 1] (aC (eV 0) (aC (eM 1) aN))) (eC (.int 10)))) aN)))))
def F_law_order : SF :=
  (sSeq (sSet 6 (eCallL phi_law_next [none, some 1] (aC (eV 0) (aC (eM 1) aN))))
  (sSeq (sSet 7 (eB1 gLen (eB 3)))
  (sSeq (sSet 8 (eL aN))
  (sSeq (sFor (iR1 (aC (eOp gMul (eOp gMod (eV 6) (eOp gAdd (eV 7) (eC (.int 1)))) (eOp gMod (eOp gDiv (eV 6) (eC (.int 10))) (eC (.int 2)))) aN)) (gNm 9) B_law_order_1)
  (sSeq (sSet 10 (eComp [9] (iR1 (aC (eOp gMod (eOp gDiv (eV 6) (eC (.int 1000))) (eC (.int 9))) aN)) (gNm 9) cYes (eCall phi_law_rule (aC (eFz (eCallL phi_law_next [none, some 1] (aC (eV 0) (aC (eM 1) aN)))) (aC (eV 3) (aC (eV 4) (aC (eV 5) aN)))))))
  (sSeq (sApp 10 (eFz (eT (aC (eC (.str (PySem.Str.ofString "rest"))) (aC (eW (eIx (eIx (eB 3) (eOp gMod (eOp gDiv (eV 6) (eC (.int 10000))) (eV 7))) (eC (.int 0)))) aN)))))
  (sRet (eT (aC (eM 2) (aC (eM 8) (aC (eM 10) aN)))))))))))
def phi_law_order : List T → Option (T × List T) := runL [false, true, false, false, false, false] 11 F_law_order
def B_law_orders_1 : SF :=
  (sSeq (sSet 9 (eW (eIx (eIx (eB 3) (eOp gMod (eV 8) (eB1 gLen (eB 3)))) (eC (.int 0)))))
  (sSeq (sIf (cT (eCmp cGt (eOp gMod (eCallL phi_law_next [none, some 1] (aC (eV 0) (aC (eM 1) aN))) (eC (.int 3))) (eC (.int 0)))) (sSet 9 (eCall phi_law_name (aC (eV 2) (aC (eOp gAdd (eC (.int 100)) (eV 8)) aN)))) (sIf (cT (eCmp inQ (eB 9) (eComp [10] (vL (eB 7)) (gNm 10) cYes (eW (eIx (eB 10) (eC (.int 0))))))) (sSet 9 (eCall phi_law_name (aC (eV 2) (aC (eOp gAdd (eC (.int 100)) (eV 8)) aN)))) sNx))
  (sAppP 7 (pNm 7) (eFz (eCallL phi_law_order [none, some 1, none, none, none, none] (aC (eV 0) (aC (eM 1) (aC (eV 9) (aC (eV 3) (aC (eV 4) (aC (eV 5) aN)))))))))))
def F_law_orders : SF :=
  (sSeq (sSet 7 (eL aN))
  (sSeq (sFor (iR1 (aC (eOp gAdd (eC (.int 1)) (eOp gMod (eCallL phi_law_next [none, some 1] (aC (eV 0) (aC (eM 1) aN))) (eV 6))) aN)) (gNm 8) B_law_orders_1)
  (sRet (eM 7))))
def phi_law_orders : List T → Option (T × List T) := runL [false, true, false, false, false, false, false] 11 F_law_orders
def B_law_shared_names_1 : SF :=
  (sSeq (sIf (cT (eCmp eqQ (eIx (eB 3) (eC (.int 0))) (eC (.str (PySem.Str.ofString "share"))))) (sExtT 1 (pNm 1) (eW (eIx (eB 3) (eC (.int 1))))) sNx)
  (sIf (cT (eCmp eqQ (eIx (eB 3) (eC (.int 0))) (eC (.str (PySem.Str.ofString "repay"))))) (sApp 1 (eW (eIx (eB 3) (eC (.int 1))))) sNx))
def B_law_shared_names_2 : SF :=
  (sFor (iL (eW (eIx (eB 2) (eC (.int 2))))) (gNm 3) B_law_shared_names_1)
def F_law_shared_names : SF :=
  (sSeq (sSet 1 (eL aN))
  (sSeq (sFor (iL (eV 0)) (gNm 2) B_law_shared_names_2)
  (sRet (eM 1))))
def phi_law_shared_names : List D → Option T := runF 4 1 F_law_shared_names
def B_law_guards_1 : SF :=
  (sAppP 8 (pNm 8) (eFz (eT (aC (eW (eIx (eW (eIx (eV 3) (eOp gMod (eCallL phi_law_next [none, some 1] (aC (eV 0) (aC (eM 1) aN))) (eB1 gLen (eB 3))))) (eC (.int 0)))) (aC (eW (eIx (eB 6) (eV 9))) aN)))))
def F_law_guards : SF :=
  (sSeq (sSet 5 (eFz (eCall phi_law_shared_names (aC (eV 4) aN))))
  (sSeq (sSet 6 (eComp [7] (iL (eV 2)) (gNm 7) (cT (eCmp notInQ (eIx (eB 7) (eC (.int 0))) (eB 5))) (eW (eIx (eB 7) (eC (.int 0))))))
  (sSeq (sSet 8 (eL aN))
  (sSeq (sIf (cT (eCmp cGt (eB1 gLen (eB 3)) (eC (.int 0)))) (sFor (iR1 (aC (eI2 minI (aC (eB1 gLen (eB 6)) (aC (eOp gMod (eCallL phi_law_next [none, some 1] (aC (eV 0) (aC (eM 1) aN))) (eC (.int 4))) aN))) aN)) (gNm 9) B_law_guards_1) sNx)
  (sRet (eM 8))))))
def phi_law_guards : List T → Option (T × List T) := runL [false, true, false, false, false] 10 F_law_guards
def B_law_pool_1 : SF :=
  (sSeq (sSet 9 (eCall phi_law_coins (aC (eFz (eCallL phi_law_next [none, some 1] (aC (eV 0) (aC (eM 1) aN)))) aN)))
  (sAppP 7 (pNm 7) (eFz (eT (aC (eCall phi_law_name (aC (eV 2) (aC (eOp gAdd (eOp gAdd (eOp gMul (eC (.int 10)) (eV 3)) (eC (.int 1))) (eV 8)) aN))) (aC (eV 9) (aC (eCall phi_law_coins (aC (eFz (eCallL phi_law_next [none, some 1] (aC (eV 0) (aC (eM 1) aN)))) aN)) aN)))))))
def B_law_pool_2 : SF :=
  (sSeq (sSet 15 (eCallL phi_law_next [none, some 1] (aC (eV 0) (aC (eM 1) aN))))
  (sApp 14 (eFz (eT (aC (eW (eIx (eIx (eB 7) (eOp gMod (eV 15) (eV 11))) (eC (.int 0)))) (aC (eOp gAdd (eC (.int 1)) (eOp gMod (eOp gDiv (eV 15) (eC (.int 10))) (eC (.int 9)))) (aC (eW (eIx (eIx (eB 13) (eOp gMod (eOp gDiv (eV 15) (eC (.int 100))) (eB1 gLen (eB 13)))) (eC (.int 0)))) aN)))))))
def F_law_pool : SF :=
  (sSeq (sSet 6 (eCallL phi_law_next [none, some 1] (aC (eV 0) (aC (eM 1) aN))))
  (sSeq (sSet 7 (eL aN))
  (sSeq (sFor (iR1 (aC (eOp gAdd (eC (.int 1)) (eOp gMod (eV 6) (eC (.int 6)))) aN)) (gNm 8) B_law_pool_1)
  (sSeq (sSet 10 (eComp [8] (iR1 (aC (eOp gMod (eOp gDiv (eV 6) (eC (.int 6))) (eC (.int 4))) aN)) (gNm 8) cYes (eT (aC (eCall phi_law_name (aC (eV 2) (aC (eOp gAdd (eOp gAdd (eOp gMul (eC (.int 10)) (eV 3)) (eC (.int 7))) (eV 8)) aN))) (aC (eCall phi_law_coins (aC (eFz (eCallL phi_law_next [none, some 1] (aC (eV 0) (aC (eM 1) aN)))) aN)) aN)))))
  (sSeq (sSet 11 (eB1 gLen (eB 7)))
  (sSeq (sSet 12 (eComp [8] (iR1 (aC (eOp gMod (eOp gDiv (eV 6) (eC (.int 24))) (eOp gAdd (eV 11) (eC (.int 1)))) aN)) (gNm 8) cYes (eW (eIx (eIx (eB 7) (eOp gMod (eOp gAdd (eOp gDiv (eV 6) (eC (.int 100))) (eV 8)) (eV 11))) (eC (.int 0))))))
  (sSeq (sSet 13 (eCallL phi_law_orders [none, some 1, none, none, none, none, none] (aC (eV 0) (aC (eM 1) (aC (eV 2) (aC (eV 7) (aC (eV 10) (aC (eV 4) (aC (eV 5) aN)))))))))
  (sSeq (sSet 14 (eL aN))
  (sSeq (sFor (iR1 (aC (eOp gMod (eOp gDiv (eV 6) (eC (.int 1000))) (eC (.int 5))) aN)) (gNm 8) B_law_pool_2)
  (sSeq (sSet 16 (eCallL phi_law_guards [none, some 1, none, none, none] (aC (eV 0) (aC (eM 1) (aC (eV 7) (aC (eV 10) (aC (eV 13) aN)))))))
  (sRet (eT (aC (eCall phi_law_name (aC (eV 2) (aC (eOp gMul (eC (.int 10)) (eV 3)) aN))) (aC (eM 7) (aC (eM 10) (aC (eM 12) (aC (eM 13) (aC (eM 14) (aC (eM 16) aN)))))))))))))))))))
def phi_law_pool : List T → Option (T × List T) := runL [false, true, false, false, false, false] 17 F_law_pool
def B_law_deal_1 : SF :=
  (sSeq (sSet 8 (eComp [9] (vL (eB 5)) (gNm 9) (cT (eCmp neQ (eB 9) (eIx (eB 5) (eV 6)))) (eV 9)))
  (sAppP 7 (pNm 7) (eFz (eCallL phi_law_pool [none, some 1, none, none, none, none] (aC (eV 0) (aC (eM 1) (aC (eV 2) (aC (eV 6) (aC (eV 8) (aC (eW (eIx (eL (aC (eC (.int 5)) (aC (eC (.int 2)) aN))) (eB1 gInt (eCmp eqQ (eB 4) (eC (.int 6)))))) aN))))))))))
def F_law_deal : SF :=
  (sSeq (sSet 1 (eL (aC (eC (.int 0)) aN)))
  (sSeq (sSet 2 (eOp gMod (eCall phi_law_draw (aC (eV 0) (aC (eC (.int 0)) aN))) (eOp gPow (eC (.int 10)) (eC (.int 12)))))
  (sSeq (sSet 3 (eCallL phi_law_next [none, some 1] (aC (eV 0) (aC (eM 1) aN))))
  (sSeq (sSet 4 (eW (eIx (eL (aC (eC (.int 1)) (aC (eC (.int 2)) (aC (eC (.int 3)) (aC (eC (.int 1)) (aC (eC (.int 2)) (aC (eC (.int 6)) aN))))))) (eOp gMod (eV 3) (eC (.int 6))))))
  (sSeq (sSet 5 (eComp [6] (iR1 (aC (eV 4) aN)) (gNm 6) cYes (eCall phi_law_name (aC (eV 2) (aC (eOp gMul (eC (.int 10)) (eV 6)) aN)))))
  (sSeq (sSet 7 (eL aN))
  (sSeq (sFor (iR1 (aC (eV 4) aN)) (gNm 6) B_law_deal_1)
  (sRet (eM 7)))))))))
def phi_law_deal : List D → Option T := runF 10 1 F_law_deal
def F_law_income : SF :=
  (sSeq (sSet 1 (eOp gMod (eV 0) (eC (.int 6))))
  (sSeq (sIf (cT (eCmp eqQ (eB 1) (eC (.int 0)))) (sRet (eC (.int 0))) sNx)
  (sSeq (sIf (cT (eCmp cLt (eB 1) (eC (.int 3)))) (sRet (eOp gMod (eOp gDiv (eV 0) (eC (.int 6))) (eC (.int 60)))) sNx)
  (sSeq (sIf (cT (eCmp eqQ (eB 1) (eC (.int 3)))) (sRet (eOp gMod (eOp gDiv (eV 0) (eC (.int 6))) (eC (.int 2000)))) sNx)
  (sSeq (sIf (cT (eCmp eqQ (eB 1) (eC (.int 4)))) (sRet (eOp gMod (eOp gDiv (eV 0) (eC (.int 6))) (eOp gPow (eC (.int 10)) (eC (.int 13))))) sNx)
  (sRet (eOp gMod (eOp gDiv (eV 0) (eC (.int 6))) (eOp gPow (eC (.int 10)) (eC (.int 30))))))))))
def phi_law_income : List D → Option T := runF 2 1 F_law_income
def F_law_loss : SF :=
  (sSeq (sSet 1 (eOp gMod (eV 0) (eC (.int 6))))
  (sSeq (sIf (cT (eCmp cLt (eB 1) (eC (.int 3)))) (sRet (eC (.int 0))) sNx)
  (sSeq (sIf (cT (eCmp eqQ (eB 1) (eC (.int 3)))) (sRet (eOp gMod (eOp gDiv (eV 0) (eC (.int 6))) (eC (.int 40)))) sNx)
  (sSeq (sIf (cT (eCmp eqQ (eB 1) (eC (.int 4)))) (sRet (eOp gMod (eOp gDiv (eV 0) (eC (.int 6))) (eOp gPow (eC (.int 10)) (eC (.int 13))))) sNx)
  (sRet (eOp gMod (eOp gDiv (eV 0) (eC (.int 6))) (eOp gPow (eC (.int 10)) (eC (.int 29)))))))))
def phi_law_loss : List D → Option T := runF 2 1 F_law_loss
def B_law_days_1 : SF :=
  (sSeq (sSet 4 (eComp [5] (iR1 (aC (eB1 gLen (eB 1)) aN)) (gNm 5) cYes (eCall phi_law_income (aC (eCall phi_law_draw (aC (eV 0) (aC (eOp gAdd (eOp gAdd (eC (.int 700)) (eOp gMul (eC (.int 12)) (eV 3))) (eV 5)) aN))) aN))))
  (sSeq (sSet 6 (eComp [5] (iR1 (aC (eB1 gLen (eB 1)) aN)) (gNm 5) cYes (eCall phi_law_loss (aC (eCall phi_law_draw (aC (eV 0) (aC (eOp gAdd (eOp gAdd (eC (.int 706)) (eOp gMul (eC (.int 12)) (eV 3))) (eV 5)) aN))) aN))))
  (sApp 2 (eFz (eT (aC (eV 4) (aC (eV 6) aN)))))))
def F_law_days : SF :=
  (sSeq (sSet 2 (eL aN))
  (sSeq (sFor (iR1 (aC (eOp gMod (eCall phi_law_draw (aC (eV 0) (aC (eC (.int 690)) aN))) (eC (.int 7))) aN)) (gNm 3) B_law_days_1)
  (sRet (eM 2))))
def phi_law_days : List D → Option T := runF 7 2 F_law_days
def B_law_more_1 : SF :=
  (sSeq (sSet 5 (eFz (eCall phi_law_draw (aC (eV 0) (aC (eOp gAdd (eC (.int 851)) (eV 4)) aN)))))
  (sSeq (sSet 6 (eW (eIx (eIx (eB 1) (eOp gMod (eV 5) (eB1 gLen (eB 1)))) (eC (.int 0)))))
  (sSeq (sIf (cT (eCmp eqQ (eOp gMod (eOp gDiv (eV 5) (eC (.int 6))) (eC (.int 8))) (eC (.int 0)))) (sSet 6 (eCall phi_law_name (aC (eOp gMod (eCall phi_law_draw (aC (eV 0) (aC (eC (.int 0)) aN))) (eOp gPow (eC (.int 10)) (eC (.int 12)))) (aC (eC (.int 601)) aN)))) sNx)
  (sSeq (sSet 7 (eOp gMod (eOp gDiv (eV 5) (eC (.int 48))) (eOp gAdd (eB1 gLen (eB 2)) (eC (.int 3)))))
  (sSeq (sSet 8 (eW (eIx (eL (aC (eOp gMod (eOp gDiv (eV 5) (eC (.int 10000))) (eC (.int 40))) (aC (eOp gMod (eOp gDiv (eV 5) (eC (.int 10000))) (eOp gPow (eC (.int 10)) (eC (.int 28)))) (aC (eOp gMod (eOp gDiv (eV 5) (eC (.int 10000))) (eOp gPow (eC (.int 10)) (eC (.int 13)))) aN)))) (eOp gMod (eOp gDiv (eV 5) (eC (.int 1000))) (eC (.int 3))))))
  (sApp 3 (eFz (eT (aC (eV 7) (aC (eV 6) (aC (eV 8) aN)))))))))))
def F_law_more : SF :=
  (sSeq (sSet 3 (eL aN))
  (sSeq (sFor (iR1 (aC (eOp gMod (eCall phi_law_draw (aC (eV 0) (aC (eC (.int 850)) aN))) (eC (.int 8))) aN)) (gNm 4) B_law_more_1)
  (sRet (eM 3))))
def phi_law_more : List D → Option T := runF 9 3 F_law_more
def B_added_losses_1 : SF :=
  (sPutD 3 (eW (eIx (eB 5) (eC (.int 0)))) (eV 4))
def B_added_losses_2 : SF :=
  (sIf (cAnd (cT (eDin true (eB 10) (eB 3))) (cT (eChain bLe bLe (eC (.int 1)) (eV 9) (eB1 gLen (eB 6))))) (sAugP (fun i j => i + j) 6 (pIx 6 (pIx 6 (pNm 6) (eOp gSub (eV 9) (eC (.int 1)))) (eC (.int 1))) (eDix (eB 3) (eV 10)) (eV 11)) sNx)
def F_added_losses : SF :=
  (sSeq (sSet 3 eDn)
  (sSeq (sFor (iEn (aC (eV 0) aN)) (gTp 2 (gAnd (gNm 4) (gAnd (gNm 5) gEnd))) B_added_losses_1)
  (sSeq (sSet 6 (eComp [7, 8] (iL (eV 1)) (gTp 2 (gAnd (gNm 7) (gAnd (gNm 8) gEnd))) cYes (eT (aC (eList (eB 7)) (aC (eList (eB 8)) aN)))))
  (sSeq (sFor (iL (eV 2)) (gTp 3 (gAnd (gNm 9) (gAnd (gNm 10) (gAnd (gNm 11) gEnd)))) B_added_losses_2)
  (sRet (eM 6))))))
def phi_added_losses : List D → Option T := runF 12 3 F_added_losses
def B_law_due_1 : SF :=
  (sSeq (sSet 7 (eComp [8] (iL (eV 2)) (gNm 8) (cAnd (cT (eCmp eqQ (eIx (eB 8) (eC (.int 0))) (eOp gAdd (eV 4) (eC (.int 1))))) (cT (eCmp eqQ (eIx (eB 8) (eC (.int 1))) (eIx (eIx (eB 0) (eV 6)) (eC (.int 0)))))) (eW (eIx (eB 8) (eC (.int 2))))))
  (sApp 5 (eOp gAdd (eW (eIx (eIx (eIx (eB 1) (eV 4)) (eC (.int 1))) (eV 6))) (eB1 gSum (eB 7)))))
def B_law_due_2 : SF :=
  (sSeq (sSet 5 (eL aN))
  (sSeq (sFor (iR1 (aC (eB1 gLen (eB 0)) aN)) (gNm 6) B_law_due_1)
  (sApp 3 (eFz (eT (aC (eList (eIx (eIx (eB 1) (eV 4)) (eC (.int 0)))) (aC (eV 5) aN)))))))
def F_law_due : SF :=
  (sSeq (sSet 3 (eL aN))
  (sSeq (sFor (iR1 (aC (eB1 gLen (eB 1)) aN)) (gNm 4) B_law_due_2)
  (sRet (eM 3))))
def phi_law_due : List D → Option T := runF 9 3 F_law_due
def B_law_same_1 (φ : List D → Option T) : SF :=
  (sIf (cNot (cT (eCall φ (aC (eV 2) (aC (eV 3) aN))))) (sRet (eC (.bl false))) sNx)
def F_law_same (φ : List D → Option T) : SF :=
  (sSeq (sIf (cOr (cT (eIsi "list" (eB 1))) (cT (eIsi "tuple" (eB 1)))) (sSeq (sIf (cT (eCmp neQ (eIsi "list" (eB 1)) (eIsi "list" (eB 0)))) (sRet (eC (.bl false))) sNx)
  (sSeq (sIf (cT (eCmp neQ (eIsi "tuple" (eB 1)) (eIsi "tuple" (eB 0)))) (sRet (eC (.bl false))) sNx)
  (sSeq (sIf (cT (eCmp neQ (eB1 gLen (eB 0)) (eB1 gLen (eB 1)))) (sRet (eC (.bl false))) sNx)
  (sSeq (sFor (iZp (aC (eV 0) (aC (eV 1) aN))) (gTp 2 (gAnd (gNm 2) (gAnd (gNm 3) gEnd))) (B_law_same_1 φ))
  (sRet (eC (.bl true))))))) sNx)
  (sSeq (sIf (cT (eCmp isN (eB 1) (eC .non))) (sRet (eCmp isN (eB 0) (eC .non))) sNx)
  (sSeq (sIf (cT (eIsi "str" (eB 1))) (sRet (eAnd (eIsi "str" (eB 0)) (eCmp eqQ (eB 0) (eB 1)))) sNx)
  (sRet (eAnd (eIsi "int" (eB 0)) (eAnd (eNot (eIsi "bool" (eB 0))) (eCmp eqQ (eB 0) (eB 1))))))))
def phi_law_same : Nat → List D → Option T
  | 0 => fun _ => none
  | n + 1 => runF 4 2 (F_law_same (phi_law_same n))
def B_law_1 : SF :=
  (sSeq (sAppP 7 (pIx 7 (pNm 7) (eC (.int 0))) (eC (.int 1)))
  (sAppP 7 (pIx 7 (pNm 7) (eC (.int 1))) (eC (.int 2))))
def F_law : SF :=
  (sSeq (sSet 1 (eFz (eCall phi_law_deal (aC (eV 0) aN))))
  (sSeq (sSet 2 (eFz (eCall phi_law_days (aC (eV 0) (aC (eV 1) aN)))))
  (sSeq (sSet 3 (eFz (eCall phi_law_more (aC (eV 0) (aC (eV 1) (aC (eV 2) aN))))))
  (sSeq (sSet 4 (eFz (eL (aC (eList (eB 3)) (aC (eCall phi_law_days (aC (eV 0) (aC (eV 1) aN))) aN)))))
  (sSeq (sSet 5 (eCall phi_added_losses (aC (eV 1) (aC (eW (eIx (eB 4) (eC (.int 1)))) (aC (eW (eIx (eB 4) (eC (.int 0)))) aN)))))
  (sSeq (sSet 6 (eFz (eCall phi_law_due (aC (eV 1) (aC (eV 2) (aC (eV 3) aN))))))
  (sSeq (sIf (cOr (cNot (cT (eCallB (phi_law_same 8) (aC (eB 5) (aC (eB 6) aN))))) (cOr (cT (eCmp neQ (eIx (eB 4) (eC (.int 0))) (eB 3))) (cNot (cT (eCall (phi_law_same 8) (aC (eV 1) (aC (eFz (eCall phi_law_deal (aC (eV 0) aN))) aN))))))) (sRet (eC (.bl false))) sNx)
  (sSeq (sForP 5 7 B_law_1)
  (sFzI 5 (sSeq (sApp 5 (eFz (eSl (eB 5) oN (oS (eC (.int 1))))))
  (sRet (eAnd (eCall (phi_law_same 8) (aC (eW (eIx (eB 4) (eC (.int 1)))) (aC (eV 2) aN))) (eCall (phi_law_same 8) (aC (eFz (eCall phi_added_losses (aC (eV 1) (aC (eW (eIx (eB 4) (eC (.int 1)))) (aC (eW (eIx (eB 4) (eC (.int 0)))) aN))))) (aC (eV 6) aN)))))))))))))))
def phi_law : List D → Option T := runF 8 1 F_law
end
end K53
set_option Elab.async false
set_option linter.all false
set_option maxRecDepth 100000
set_option maxHeartbeats 4000000
namespace K53
open PySem PySem.Spec PyProof.Rows L2 DL
def topS (i : Nat) : Stmt := PySem.Challenge.pw_tranchefall_k53_losses_added.main.body.getD i (.Pass ⟨0, 0, 0, 0⟩)
abbrev s_law_draw : Stmt := topS 4
abbrev N_law_draw : List Str := ["_law_script", "_law_k", "_law_cell", "_law_factor"]
theorem sc_law_draw : FnScope N_law_draw ["_law_script", "_law_k"] (defScope s_law_draw) := ⟨rfl, rfl, rfl, by decide +kernel, rfl, by decide +kernel, by decide +kernel⟩
abbrev s_law_next : Stmt := topS 5
abbrev N_law_next : List Str := ["_law_script", "_law_at"]
theorem sc_law_next : FnScope N_law_next ["_law_script", "_law_at"] (defScope s_law_next) := ⟨rfl, rfl, rfl, by decide +kernel, rfl, by decide +kernel, by decide +kernel⟩
abbrev s_law_keywords : Stmt := topS 3
abbrev N_law_keywords : List Str := ["_law_heads"]
theorem sc_law_keywords : FnScope N_law_keywords [] (defScope s_law_keywords) := ⟨rfl, rfl, rfl, by decide +kernel, rfl, by decide +kernel, by decide +kernel⟩
abbrev s_law_name : Stmt := topS 6
abbrev N_law_name : List Str := ["_law_seed", "_law_k", "_law_letters", "_law_size", "_law_spot", "_law_word", "_law_j", "_law_two"]
theorem sc_law_name : FnScope N_law_name ["_law_seed", "_law_k"] (defScope s_law_name) := ⟨rfl, rfl, rfl, by decide +kernel, rfl, by decide +kernel, by decide +kernel⟩
abbrev s_law_coins : Stmt := topS 7
abbrev N_law_coins : List Str := ["_law_n"]
theorem sc_law_coins : FnScope N_law_coins ["_law_n"] (defScope s_law_coins) := ⟨rfl, rfl, rfl, by decide +kernel, rfl, by decide +kernel, by decide +kernel⟩
abbrev s_law_rule : Stmt := topS 8
abbrev N_law_rule : List Str := ["_law_n", "_law_claims", "_law_pots", "_law_others", "_law_way", "_law_many", "_law_name_here", "_law_size", "_law_j"]
theorem sc_law_rule : FnScope N_law_rule ["_law_n", "_law_claims", "_law_pots", "_law_others"] (defScope s_law_rule) := ⟨rfl, rfl, rfl, by decide +kernel, rfl, by decide +kernel, by decide +kernel⟩
abbrev s_law_order : Stmt := topS 9
abbrev N_law_order : List Str := ["_law_script", "_law_at", "_law_name_here", "_law_claims", "_law_pots", "_law_others", "_law_n", "_law_many", "_law_parts", "_law_j", "_law_rules"]
theorem sc_law_order : FnScope N_law_order ["_law_script", "_law_at", "_law_name_here", "_law_claims", "_law_pots", "_law_others"] (defScope s_law_order) := ⟨rfl, rfl, rfl, by decide +kernel, rfl, by decide +kernel, by decide +kernel⟩
abbrev s_law_orders : Stmt := topS 10
abbrev N_law_orders : List Str := ["_law_script", "_law_at", "_law_seed", "_law_claims", "_law_pots", "_law_others", "_law_most", "_law_orders_here", "_law_j", "_law_name_here", "_law_order_here"]
theorem sc_law_orders : FnScope N_law_orders ["_law_script", "_law_at", "_law_seed", "_law_claims", "_law_pots", "_law_others", "_law_most"] (defScope s_law_orders) := ⟨rfl, rfl, rfl, by decide +kernel, rfl, by decide +kernel, by decide +kernel⟩
abbrev s_law_shared_names : Stmt := topS 11
abbrev N_law_shared_names : List Str := ["_law_orders_here", "_law_names", "_law_order_here", "_law_rule_here"]
theorem sc_law_shared_names : FnScope N_law_shared_names ["_law_orders_here"] (defScope s_law_shared_names) := ⟨rfl, rfl, rfl, by decide +kernel, rfl, by decide +kernel, by decide +kernel⟩
abbrev s_law_guards : Stmt := topS 12
abbrev N_law_guards : List Str := ["_law_script", "_law_at", "_law_claims", "_law_pots", "_law_orders_here", "_law_held", "_law_free", "_law_claim", "_law_guards_here", "_law_j"]
theorem sc_law_guards : FnScope N_law_guards ["_law_script", "_law_at", "_law_claims", "_law_pots", "_law_orders_here"] (defScope s_law_guards) := ⟨rfl, rfl, rfl, by decide +kernel, rfl, by decide +kernel, by decide +kernel⟩
abbrev s_law_pool : Stmt := topS 13
abbrev N_law_pool : List Str := ["_law_script", "_law_at", "_law_seed", "_law_k", "_law_others", "_law_most", "_law_n", "_law_claims", "_law_j", "_law_size", "_law_pots", "_law_many", "_law_eat", "_law_orders_here", "_law_looks", "_law_m", "_law_guards_here"]
theorem sc_law_pool : FnScope N_law_pool ["_law_script", "_law_at", "_law_seed", "_law_k", "_law_others", "_law_most"] (defScope s_law_pool) := ⟨rfl, rfl, rfl, by decide +kernel, rfl, by decide +kernel, by decide +kernel⟩
abbrev s_law_deal : Stmt := topS 14
abbrev N_law_deal : List Str := ["_law_script", "_law_at", "_law_seed", "_law_n", "_law_many", "_law_names", "_law_k", "_law_deal_here", "_law_others", "_law_name_here"]
theorem sc_law_deal : FnScope N_law_deal ["_law_script"] (defScope s_law_deal) := ⟨rfl, rfl, rfl, by decide +kernel, rfl, by decide +kernel, by decide +kernel⟩
abbrev s_law_income : Stmt := topS 15
abbrev N_law_income : List Str := ["_law_n", "_law_way"]
theorem sc_law_income : FnScope N_law_income ["_law_n"] (defScope s_law_income) := ⟨rfl, rfl, rfl, by decide +kernel, rfl, by decide +kernel, by decide +kernel⟩
abbrev s_law_loss : Stmt := topS 16
abbrev N_law_loss : List Str := ["_law_n", "_law_way"]
theorem sc_law_loss : FnScope N_law_loss ["_law_n"] (defScope s_law_loss) := ⟨rfl, rfl, rfl, by decide +kernel, rfl, by decide +kernel, by decide +kernel⟩
abbrev s_law_days : Stmt := topS 17
abbrev N_law_days : List Str := ["_law_script", "_law_deal_here", "_law_days_here", "_law_d", "_law_incomes", "_law_k", "_law_losses"]
theorem sc_law_days : FnScope N_law_days ["_law_script", "_law_deal_here"] (defScope s_law_days) := ⟨rfl, rfl, rfl, by decide +kernel, rfl, by decide +kernel, by decide +kernel⟩
abbrev s_law_more : Stmt := topS 18
abbrev N_law_more : List Str := ["_law_script", "_law_deal_here", "_law_days_here", "_law_rows", "_law_k", "_law_n", "_law_name_here", "_law_day", "_law_coins_here"]
theorem sc_law_more : FnScope N_law_more ["_law_script", "_law_deal_here", "_law_days_here"] (defScope s_law_more) := ⟨rfl, rfl, rfl, by decide +kernel, rfl, by decide +kernel, by decide +kernel⟩
abbrev s_added_losses : Stmt := topS 1
abbrev N_added_losses : List Str := ["deal", "days", "rows", "at", "k", "pool", "made", "incomes", "losses", "day", "name", "coins"]
theorem sc_added_losses : FnScope N_added_losses ["deal", "days", "rows"] (defScope s_added_losses) := ⟨rfl, rfl, rfl, by decide +kernel, rfl, by decide +kernel, by decide +kernel⟩
abbrev s_law_due : Stmt := topS 20
abbrev N_law_due : List Str := ["_law_deal_here", "_law_days_here", "_law_rows", "_law_due_here", "_law_d", "_law_losses", "_law_k", "_law_more_here", "_law_row"]
theorem sc_law_due : FnScope N_law_due ["_law_deal_here", "_law_days_here", "_law_rows"] (defScope s_law_due) := ⟨rfl, rfl, rfl, by decide +kernel, rfl, by decide +kernel, by decide +kernel⟩
abbrev s_law_same : Stmt := topS 19
abbrev N_law_same : List Str := ["_law_found", "_law_due_here", "_law_one", "_law_two"]
theorem sc_law_same : FnScope N_law_same ["_law_found", "_law_due_here"] (defScope s_law_same) := ⟨rfl, rfl, rfl, by decide +kernel, rfl, by decide +kernel, by decide +kernel⟩
abbrev s_law : Stmt := topS 21
abbrev N_law : List Str := ["_law_script", "_law_deal_here", "_law_days_here", "_law_rows", "_law_handed", "_law_found", "_law_due_here", "_law_pair"]
theorem sc_law : FnScope N_law ["_law_script"] (defScope s_law) := ⟨rfl, rfl, rfl, by decide +kernel, rfl, by decide +kernel, by decide +kernel⟩
structure Txt (K : PySem.W.Frag) (mg : Str → Option Value) (f_law_draw f_law_next f_law_keywords f_law_name f_law_coins f_law_rule f_law_order f_law_orders f_law_shared_names f_law_guards f_law_pool f_law_deal f_law_income f_law_loss f_law_days f_law_more f_added_losses f_law_due f_law_same f_law : Addr) (d_law_draw d_law_next d_law_keywords d_law_name d_law_coins d_law_rule d_law_order d_law_orders d_law_shared_names d_law_guards d_law_pool d_law_deal d_law_income d_law_loss d_law_days d_law_more d_added_losses d_law_due d_law_same d_law : FuncData) : Prop where
  F_law_draw : Fun K "_law_draw" "_law_draw" s_law_draw f_law_draw d_law_draw
  b_law_draw : Binds K d_law_draw ["_law_script", "_law_k"] []
  g_law_draw : mg "_law_draw" = some (.ref f_law_draw)
  F_law_next : Fun K "_law_next" "_law_next" s_law_next f_law_next d_law_next
  b_law_next : Binds K d_law_next ["_law_script", "_law_at"] []
  g_law_next : mg "_law_next" = some (.ref f_law_next)
  F_law_keywords : Fun K "_law_keywords" "_law_keywords" s_law_keywords f_law_keywords d_law_keywords
  b_law_keywords : Binds K d_law_keywords [] []
  g_law_keywords : mg "_law_keywords" = some (.ref f_law_keywords)
  F_law_name : Fun K "_law_name" "_law_name" s_law_name f_law_name d_law_name
  b_law_name : Binds K d_law_name ["_law_seed", "_law_k"] []
  g_law_name : mg "_law_name" = some (.ref f_law_name)
  F_law_coins : Fun K "_law_coins" "_law_coins" s_law_coins f_law_coins d_law_coins
  b_law_coins : Binds K d_law_coins ["_law_n"] []
  g_law_coins : mg "_law_coins" = some (.ref f_law_coins)
  F_law_rule : Fun K "_law_rule" "_law_rule" s_law_rule f_law_rule d_law_rule
  b_law_rule : Binds K d_law_rule ["_law_n", "_law_claims", "_law_pots", "_law_others"] []
  g_law_rule : mg "_law_rule" = some (.ref f_law_rule)
  F_law_order : Fun K "_law_order" "_law_order" s_law_order f_law_order d_law_order
  b_law_order : Binds K d_law_order ["_law_script", "_law_at", "_law_name_here", "_law_claims", "_law_pots", "_law_others"] []
  g_law_order : mg "_law_order" = some (.ref f_law_order)
  F_law_orders : Fun K "_law_orders" "_law_orders" s_law_orders f_law_orders d_law_orders
  b_law_orders : Binds K d_law_orders ["_law_script", "_law_at", "_law_seed", "_law_claims", "_law_pots", "_law_others", "_law_most"] []
  g_law_orders : mg "_law_orders" = some (.ref f_law_orders)
  F_law_shared_names : Fun K "_law_shared_names" "_law_shared_names" s_law_shared_names f_law_shared_names d_law_shared_names
  b_law_shared_names : Binds K d_law_shared_names ["_law_orders_here"] []
  g_law_shared_names : mg "_law_shared_names" = some (.ref f_law_shared_names)
  F_law_guards : Fun K "_law_guards" "_law_guards" s_law_guards f_law_guards d_law_guards
  b_law_guards : Binds K d_law_guards ["_law_script", "_law_at", "_law_claims", "_law_pots", "_law_orders_here"] []
  g_law_guards : mg "_law_guards" = some (.ref f_law_guards)
  F_law_pool : Fun K "_law_pool" "_law_pool" s_law_pool f_law_pool d_law_pool
  b_law_pool : Binds K d_law_pool ["_law_script", "_law_at", "_law_seed", "_law_k", "_law_others", "_law_most"] []
  g_law_pool : mg "_law_pool" = some (.ref f_law_pool)
  F_law_deal : Fun K "_law_deal" "_law_deal" s_law_deal f_law_deal d_law_deal
  b_law_deal : Binds K d_law_deal ["_law_script"] []
  g_law_deal : mg "_law_deal" = some (.ref f_law_deal)
  F_law_income : Fun K "_law_income" "_law_income" s_law_income f_law_income d_law_income
  b_law_income : Binds K d_law_income ["_law_n"] []
  g_law_income : mg "_law_income" = some (.ref f_law_income)
  F_law_loss : Fun K "_law_loss" "_law_loss" s_law_loss f_law_loss d_law_loss
  b_law_loss : Binds K d_law_loss ["_law_n"] []
  g_law_loss : mg "_law_loss" = some (.ref f_law_loss)
  F_law_days : Fun K "_law_days" "_law_days" s_law_days f_law_days d_law_days
  b_law_days : Binds K d_law_days ["_law_script", "_law_deal_here"] []
  g_law_days : mg "_law_days" = some (.ref f_law_days)
  F_law_more : Fun K "_law_more" "_law_more" s_law_more f_law_more d_law_more
  b_law_more : Binds K d_law_more ["_law_script", "_law_deal_here", "_law_days_here"] []
  g_law_more : mg "_law_more" = some (.ref f_law_more)
  F_added_losses : Fun K "added_losses" "added_losses" s_added_losses f_added_losses d_added_losses
  b_added_losses : Binds K d_added_losses ["deal", "days", "rows"] []
  g_added_losses : mg "added_losses" = some (.ref f_added_losses)
  F_law_due : Fun K "_law_due" "_law_due" s_law_due f_law_due d_law_due
  b_law_due : Binds K d_law_due ["_law_deal_here", "_law_days_here", "_law_rows"] []
  g_law_due : mg "_law_due" = some (.ref f_law_due)
  F_law_same : Fun K "_law_same" "_law_same" s_law_same f_law_same d_law_same
  b_law_same : Binds K d_law_same ["_law_found", "_law_due_here"] []
  g_law_same : mg "_law_same" = some (.ref f_law_same)
  F_law : Fun K "law" "law" s_law f_law d_law
  b_law : Binds K d_law ["_law_script"] []
  g_law : mg "law" = some (.ref f_law)
  m_enumerate : mg "enumerate" = none
  m_list : mg "list" = none
  m_len : mg "len" = none
  m_range : mg "range" = none
  m_tuple : mg "tuple" = none
  m_min : mg "min" = none
  m_int : mg "int" = none
  m_isinstance : mg "isinstance" = none
  m_zip : mg "zip" = none
  m_str : mg "str" = none
  m_bool : mg "bool" = none
  m_sum : mg "sum" = none
section
variable {P : Program} {w : World} {K : PySem.W.Frag} {mg : Str → Option Value} {base : Heap} {f_law_draw f_law_next f_law_keywords f_law_name f_law_coins f_law_rule f_law_order f_law_orders f_law_shared_names f_law_guards f_law_pool f_law_deal f_law_income f_law_loss f_law_days f_law_more f_added_losses f_law_due f_law_same f_law : Addr} {d_law_draw d_law_next d_law_keywords d_law_name d_law_coins d_law_rule d_law_order d_law_orders d_law_shared_names d_law_guards d_law_pool d_law_deal d_law_income d_law_loss d_law_days d_law_more d_added_losses d_law_due d_law_same d_law : FuncData}
theorem ok_law_draw (T : Txt K mg f_law_draw f_law_next f_law_keywords f_law_name f_law_coins f_law_rule f_law_order f_law_orders f_law_shared_names f_law_guards f_law_pool f_law_deal f_law_income f_law_loss f_law_days f_law_more f_added_losses f_law_due f_law_same f_law d_law_draw d_law_next d_law_keywords d_law_name d_law_coins d_law_rule d_law_order d_law_orders d_law_shared_names d_law_guards d_law_pool d_law_deal d_law_income d_law_loss d_law_days d_law_more d_added_losses d_law_due d_law_same d_law) : FnOk P w K mg base CX0 1 f_law_draw d_law_draw ["_law_script", "_law_k"] (spD 2 phi_law_draw K) := by
  have nd : N_law_draw.Nodup := sc_law_draw.nd
  exact okD (Fb := F_law_draw) T.F_law_draw sc_law_draw rfl rfl fun cdv A outer s H E hr => have hu := hu_of hr; ⟨_, _,
    (dss_cons (ds_set (i := 2) nd rfl (by first | exact Or.inl rfl | exact Or.inr rfl) dt_int)
      (dss_cons (ds_if (dc_gt (DT.dv (dt_len (by rfl) T.m_len (dv_v 0))) (DT.dv dt_int)) (dss_one (ds_set (i := 2) nd rfl (by first | exact Or.inl rfl | exact Or.inr rfl) (DV.dt (dv_ix (dv_v 0) (dt_mod (dt_v 1) (dt_len (by rfl) T.m_len (dv_v 0))))))) dss_nil)
      (dss_cons (ds_set (i := 3) nd rfl (by first | exact Or.inl rfl | exact Or.inr rfl) (dt_add dt_int (dt_mul (dt_mul dt_int (dt_v 1)) (dt_v 1))))
      (dss_one (ds_ret (dt_mod (dt_mul (dt_add (dt_add (dt_v 2) (dt_v 1)) dt_int) (dt_v 3)) dt_int))))))⟩
theorem ok_law_next (T : Txt K mg f_law_draw f_law_next f_law_keywords f_law_name f_law_coins f_law_rule f_law_order f_law_orders f_law_shared_names f_law_guards f_law_pool f_law_deal f_law_income f_law_loss f_law_days f_law_more f_added_losses f_law_due f_law_same f_law d_law_draw d_law_next d_law_keywords d_law_name d_law_coins d_law_rule d_law_order d_law_orders d_law_shared_names d_law_guards d_law_pool d_law_deal d_law_income d_law_loss d_law_days d_law_more d_added_losses d_law_due d_law_same d_law) : FnOk P w K mg base CX0 2 f_law_next d_law_next ["_law_script", "_law_at"] (spL phi_law_next K) := by
  have nd : N_law_next.Nodup := sc_law_next.nd
  exact okL (Fb := F_law_next) T.F_law_next sc_law_next rfl rfl fun cdv A outer s H E hr => have hu := hu_of hr; ⟨_, _,
    (dss_cons (ds_put 1 (dt_add (DV.dt (dv_ix (dv_v 1) dt_int)) dt_int) dt_int)
      (dss_one (ds_ret (dt_call (n := 2) (φ := phi_law_draw) (fun _ _ h => runF_len h) (ok_law_draw T) (hr.mono (by decide)) (by rfl) T.g_law_draw T.F_law_draw.kp T.b_law_draw (da_cons (dt_v 0) (da_cons (DV.dt (dv_ix (dv_v 1) dt_int)) da_nil)))))), by decide⟩
theorem ok_law_keywords (T : Txt K mg f_law_draw f_law_next f_law_keywords f_law_name f_law_coins f_law_rule f_law_order f_law_orders f_law_shared_names f_law_guards f_law_pool f_law_deal f_law_income f_law_loss f_law_days f_law_more f_added_losses f_law_due f_law_same f_law d_law_draw d_law_next d_law_keywords d_law_name d_law_coins d_law_rule d_law_order d_law_orders d_law_shared_names d_law_guards d_law_pool d_law_deal d_law_income d_law_loss d_law_days d_law_more d_added_losses d_law_due d_law_same d_law) : FnOk P w K mg base CX0 1 f_law_keywords d_law_keywords [] (spD 0 phi_law_keywords K) := by
  have nd : N_law_keywords.Nodup := sc_law_keywords.nd
  exact okD (Fb := F_law_keywords) T.F_law_keywords sc_law_keywords rfl rfl fun cdv A outer s H E hr => have hu := hu_of hr; ⟨_, _,
    (dss_cons (ds_set (i := 0) nd rfl (by first | exact Or.inl rfl | exact Or.inr rfl) dt_str)
      (dss_one (ds_ret (dt_split (dt_v 0) dt_str))))⟩
theorem ok_law_name (T : Txt K mg f_law_draw f_law_next f_law_keywords f_law_name f_law_coins f_law_rule f_law_order f_law_orders f_law_shared_names f_law_guards f_law_pool f_law_deal f_law_income f_law_loss f_law_days f_law_more f_added_losses f_law_due f_law_same f_law d_law_draw d_law_next d_law_keywords d_law_name d_law_coins d_law_rule d_law_order d_law_orders d_law_shared_names d_law_guards d_law_pool d_law_deal d_law_income d_law_loss d_law_days d_law_more d_added_losses d_law_due d_law_same d_law) : FnOk P w K mg base CX0 2 f_law_name d_law_name ["_law_seed", "_law_k"] (spD 2 phi_law_name K) := by
  have nd : N_law_name.Nodup := sc_law_name.nd
  exact okD (Fb := F_law_name) T.F_law_name sc_law_name rfl rfl fun cdv A outer s H E hr => have hu := hu_of hr; ⟨_, _,
    (dss_cons (ds_set (i := 2) nd rfl (by first | exact Or.inl rfl | exact Or.inr rfl) dt_str)
      (dss_cons (ds_set (i := 3) nd rfl (by first | exact Or.inl rfl | exact Or.inr rfl) (dt_add dt_int (dt_mod (dt_v 0) dt_int)))
      (dss_cons (ds_set (i := 4) nd rfl (by first | exact Or.inl rfl | exact Or.inr rfl) (dt_mod (dt_div (dt_v 0) dt_int) (dt_sub (dt_v 3) dt_int)))
      (dss_cons (ds_set (i := 5) nd rfl (by first | exact Or.inl rfl | exact Or.inr rfl) (dt_join dt_str (DT.dv (dt_comp (own := [("_law_j", 6)]) rfl nd (di_range1 (by rfl) T.m_range (da_cons (dt_v 3) da_nil)) (blkOk_by (own := [("_law_j", 6)]) (N := N_law_name) (sc := defScope s_law_name) (by decide +kernel)) (fun _ _ _ _ _ => (dg_name (i := 6) nd rfl (by first | exact Or.inl rfl | exact Or.inr rfl))) (fun _ _ _ _ _ => dts_nil) (fun _ _ _ _ _ => (DV.dt (dv_ix (dv_v 2) (dt_mod (dt_add (dt_div (dt_v 0) dt_int) (dt_mul (dt_mul (dt_v 6) (dt_v 6)) (dt_mod (dt_div (dt_v 0) dt_int) dt_int))) dt_int)))) (by decide)))))
      (dss_cons (ds_set (i := 7) nd rfl (by first | exact Or.inl rfl | exact Or.inr rfl) (dt_add (DV.dt (dv_ix (dv_v 2) (dt_mod (dt_add (dt_div (dt_v 0) dt_int) (dt_div (dt_v 1) dt_int)) dt_int))) (DV.dt (dv_ix (dv_v 2) (dt_mod (dt_add (dt_div (dt_v 0) dt_int) (dt_v 1)) dt_int)))))
      (dss_cons (ds_set (i := 5) nd rfl (by first | exact Or.inl rfl | exact Or.inr rfl) (dt_add (dt_add (dt_sl (dv_v 5) do_none (do_some (dt_v 4))) (dt_v 7)) (dt_sl (dv_v 5) (do_some (dt_add (dt_v 4) dt_int)) do_none)))
      (dss_cons (ds_if (dc_in (dv_v 5) (DT.dv (dt_call0 (n := 0) (φ := phi_law_keywords) (fun _ _ h => runF_len h) (ok_law_keywords T) (hr.mono (by decide)) (by rfl) T.g_law_keywords T.F_law_keywords.kp T.b_law_keywords))) (dss_one (ds_set (i := 5) nd rfl (by first | exact Or.inl rfl | exact Or.inr rfl) (dt_add (dt_v 5) dt_str))) dss_nil)
      (dss_one (ds_ret (dt_m 5))))))))))⟩
theorem ok_law_coins (T : Txt K mg f_law_draw f_law_next f_law_keywords f_law_name f_law_coins f_law_rule f_law_order f_law_orders f_law_shared_names f_law_guards f_law_pool f_law_deal f_law_income f_law_loss f_law_days f_law_more f_added_losses f_law_due f_law_same f_law d_law_draw d_law_next d_law_keywords d_law_name d_law_coins d_law_rule d_law_order d_law_orders d_law_shared_names d_law_guards d_law_pool d_law_deal d_law_income d_law_loss d_law_days d_law_more d_added_losses d_law_due d_law_same d_law) : FnOk P w K mg base CX0 1 f_law_coins d_law_coins ["_law_n"] (spD 1 phi_law_coins K) := by
  have nd : N_law_coins.Nodup := sc_law_coins.nd
  exact okD (Fb := F_law_coins) T.F_law_coins sc_law_coins rfl rfl fun cdv A outer s H E hr => have hu := hu_of hr; ⟨_, _,
    (dss_cons (ds_if (dc_eq hr.units (DT.dv (dt_mod (dt_v 0) dt_int)) (DT.dv dt_int)) (dss_one (ds_ret (DV.dt (dv_ix (DT.dv (dt_lst (da_cons dt_int (da_cons (dt_pow dt_int dt_int) da_nil)))) (dt_mod (dt_div (dt_v 0) dt_int) dt_int))))) dss_nil)
      (dss_cons (ds_if (dc_eq hr.units (DT.dv (dt_mod (dt_v 0) dt_int)) (DT.dv dt_int)) (dss_one (ds_ret (dt_add dt_int (dt_mod (dt_div (dt_v 0) dt_int) dt_int)))) dss_nil)
      (dss_one (ds_ret (dt_add dt_int (dt_mod (dt_div (dt_v 0) dt_int) (dt_pow dt_int dt_int)))))))⟩
theorem ok_law_rule (T : Txt K mg f_law_draw f_law_next f_law_keywords f_law_name f_law_coins f_law_rule f_law_order f_law_orders f_law_shared_names f_law_guards f_law_pool f_law_deal f_law_income f_law_loss f_law_days f_law_more f_added_losses f_law_due f_law_same f_law d_law_draw d_law_next d_law_keywords d_law_name d_law_coins d_law_rule d_law_order d_law_orders d_law_shared_names d_law_guards d_law_pool d_law_deal d_law_income d_law_loss d_law_days d_law_more d_added_losses d_law_due d_law_same d_law) : FnOk P w K mg base CX0 2 f_law_rule d_law_rule ["_law_n", "_law_claims", "_law_pots", "_law_others"] (spD 4 phi_law_rule K) := by
  have nd : N_law_rule.Nodup := sc_law_rule.nd
  exact okD (Fb := F_law_rule) T.F_law_rule sc_law_rule rfl rfl fun cdv A outer s H E hr => have hu := hu_of hr; ⟨_, _,
    (dss_cons (ds_set (i := 4) nd rfl (by first | exact Or.inl rfl | exact Or.inr rfl) (dt_mod (dt_v 0) dt_int))
      (dss_cons (ds_set (i := 5) nd rfl (by first | exact Or.inl rfl | exact Or.inr rfl) (dt_len (by rfl) T.m_len (dv_v 1)))
      (dss_cons (ds_set (i := 6) nd rfl (by first | exact Or.inl rfl | exact Or.inr rfl) (DV.dt (dv_ix (dv_ix (dv_v 1) (dt_mod (dt_div (dt_v 0) dt_int) (dt_v 5))) dt_int)))
      (dss_cons (ds_if (DW.dc (dw_and (dc_eq hr.units (dv_v 4) (DT.dv dt_int)) (dw_and1 (dc_gt (dv_v 5) (DT.dv dt_int))))) (dss_cons (ds_set (i := 7) nd rfl (by first | exact Or.inl rfl | exact Or.inr rfl) (dt_add dt_int (dt_mod (dt_div (dt_v 0) dt_int) (dt_sub (dt_v 5) dt_int))))
      (dss_one (ds_ret (dt_tup (da_cons dt_str (da_cons (dt_tuple (by rfl) T.m_tuple (DT.dv (dt_comp (own := [("_law_j", 8)]) rfl nd (di_range1 (by rfl) T.m_range (da_cons (dt_v 7) da_nil)) (blkOk_by (own := [("_law_j", 8)]) (N := N_law_rule) (sc := defScope s_law_rule) (by decide +kernel)) (fun _ _ _ _ _ => (dg_name (i := 8) nd rfl (by first | exact Or.inl rfl | exact Or.inr rfl))) (fun _ _ _ _ _ => dts_nil) (fun _ _ _ _ _ => (DV.dt (dv_ix (dv_ix (dv_v 1) (dt_mod (dt_add (dt_div (dt_v 0) dt_int) (dt_v 8)) (dt_v 5))) dt_int))) (by decide)))) da_nil)))))) dss_nil)
      (dss_cons (ds_if (dc_eq hr.units (dv_v 4) (DT.dv dt_int)) (dss_one (ds_ret (dt_tup (da_cons dt_str (da_cons (dt_m 6) da_nil))))) dss_nil)
      (dss_cons (ds_if (DW.dc (dw_and (dc_eq hr.units (dv_v 4) (DT.dv dt_int)) (dw_and1 (dc_gt (DT.dv (dt_len (by rfl) T.m_len (dv_v 2))) (DT.dv dt_int))))) (dss_one (ds_ret (dt_tup (da_cons dt_str (da_cons (DV.dt (dv_ix (dv_ix (dv_v 2) (dt_mod (dt_div (dt_v 0) dt_int) (dt_len (by rfl) T.m_len (dv_v 2)))) dt_int)) da_nil))))) dss_nil)
      (dss_cons (ds_if (DW.dc (dw_and (dc_eq hr.units (dv_v 4) (DT.dv dt_int)) (dw_and1 (dc_gt (DT.dv (dt_len (by rfl) T.m_len (dv_v 3))) (DT.dv dt_int))))) (dss_one (ds_ret (dt_tup (da_cons dt_str (da_cons (DV.dt (dv_ix (dv_v 3) (dt_mod (dt_div (dt_v 0) dt_int) (dt_len (by rfl) T.m_len (dv_v 3))))) (da_cons (dt_call (n := 1) (φ := phi_law_coins) (fun _ _ h => runF_len h) (ok_law_coins T) (hr.mono (by decide)) (by rfl) T.g_law_coins T.F_law_coins.kp T.b_law_coins (da_cons (dt_div (dt_v 0) dt_int) da_nil)) da_nil)))))) dss_nil)
      (dss_cons (ds_if (DW.dc (dw_and (dc_eq hr.units (dv_v 4) (DT.dv dt_int)) (dw_and1 (dc_gt (DT.dv (dt_len (by rfl) T.m_len (dv_v 3))) (DT.dv dt_int))))) (dss_one (ds_ret (dt_tup (da_cons dt_str (da_cons (DV.dt (dv_ix (dv_v 3) (dt_mod (dt_div (dt_v 0) dt_int) (dt_len (by rfl) T.m_len (dv_v 3))))) da_nil))))) dss_nil)
      (dss_one (ds_ret (dt_tup (da_cons dt_str (da_cons (dt_m 6) da_nil)))))))))))))⟩
theorem ok_law_order (T : Txt K mg f_law_draw f_law_next f_law_keywords f_law_name f_law_coins f_law_rule f_law_order f_law_orders f_law_shared_names f_law_guards f_law_pool f_law_deal f_law_income f_law_loss f_law_days f_law_more f_added_losses f_law_due f_law_same f_law d_law_draw d_law_next d_law_keywords d_law_name d_law_coins d_law_rule d_law_order d_law_orders d_law_shared_names d_law_guards d_law_pool d_law_deal d_law_income d_law_loss d_law_days d_law_more d_added_losses d_law_due d_law_same d_law) : FnOk P w K mg base CX0 3 f_law_order d_law_order ["_law_script", "_law_at", "_law_name_here", "_law_claims", "_law_pots", "_law_others"] (spL phi_law_order K) := by
  have nd : N_law_order.Nodup := sc_law_order.nd
  exact okL (Fb := F_law_order) T.F_law_order sc_law_order rfl rfl fun cdv A outer s H E hr => have hu := hu_of hr; ⟨_, _,
    (dss_cons (ds_setX (i := 6) nd rfl (by first | exact Or.inl rfl | exact Or.inr rfl) (dx_callL (φ := phi_law_next) (ok_law_next T) (hr.mono (by decide)) (by rfl) T.g_law_next T.F_law_next.kp T.b_law_next (dal_t (dt_v 0) (dal_m 1 dal_nil))))
      (dss_cons (ds_set (i := 7) nd rfl (by first | exact Or.inl rfl | exact Or.inr rfl) (dt_len (by rfl) T.m_len (dv_v 3)))
      (dss_cons (ds_set (i := 8) nd rfl (by first | exact Or.inl rfl | exact Or.inr rfl) (dt_lst da_nil))
      (dss_cons (ds_for PassesOwn.never rfl (di_range1 (by rfl) T.m_range (da_cons (dt_mul (dt_mod (dt_v 6) (dt_add (dt_v 7) dt_int)) (dt_mod (dt_div (dt_v 6) dt_int) dt_int)) da_nil)) (dg_name (i := 9) nd rfl (by first | exact Or.inl rfl | exact Or.inr rfl)) (dss_one (ds_appX (dp_name 8) (dx_fz (dx_tup (dax_cons (DT.dx (DV.dt (dv_ix (dv_ix (dv_v 3) (dt_mod (dt_add (dt_div (dt_v 6) dt_int) (dt_v 9)) (dt_v 7))) dt_int))) (dax_cons (dx_add (DT.dx dt_int) (dx_mod (dx_callL (φ := phi_law_next) (ok_law_next T) (hr.mono (by decide)) (by rfl) T.g_law_next T.F_law_next.kp T.b_law_next (dal_t (dt_v 0) (dal_m 1 dal_nil))) (DT.dx dt_int))) dax_nil)))))))
      (dss_cons (ds_setLcX (i := 10) (own := [("_law_j", 9)]) rfl nd rfl rfl (sw_true rfl rfl rfl (by decide +kernel)) (di_range1 (by rfl) T.m_range (da_cons (dt_mod (dt_div (dt_v 6) dt_int) dt_int) da_nil)) (blkOk_by (own := [("_law_j", 9)]) (N := N_law_order) (sc := defScope s_law_order) (by decide +kernel)) (fun _ _ _ _ _ => (dg_name (i := 9) nd rfl (by first | exact Or.inl rfl | exact Or.inr rfl))) (fun _ _ _ _ _ => dts_nil) (fun _ _ _ _ _ => (dx_call (n := 4) (φ := phi_law_rule) (fun _ _ h => runF_len h) (ok_law_rule T) (hr.mono (by decide)) (by rfl) T.g_law_rule T.F_law_rule.kp T.b_law_rule (dax_cons (dx_fz (dx_callL (φ := phi_law_next) (ok_law_next T) (hr.mono (by decide)) (by rfl) T.g_law_next T.F_law_next.kp T.b_law_next (dal_t (dt_v 0) (dal_m 1 dal_nil)))) (dax_cons (DT.dx (dt_v 3)) (dax_cons (DT.dx (dt_v 4)) (dax_cons (DT.dx (dt_v 5)) dax_nil)))))) (by decide))
      (dss_cons (ds_app 10 (dt_fz (dt_tup (da_cons dt_str (da_cons (DV.dt (dv_ix (dv_ix (dv_v 3) (dt_mod (dt_div (dt_v 6) dt_int) (dt_v 7))) dt_int)) da_nil)))))
      (dss_one (ds_ret (dt_tup (da_cons (dt_m 2) (da_cons (dt_m 8) (da_cons (dt_m 10) da_nil)))))))))))), by decide⟩
theorem ok_law_orders (T : Txt K mg f_law_draw f_law_next f_law_keywords f_law_name f_law_coins f_law_rule f_law_order f_law_orders f_law_shared_names f_law_guards f_law_pool f_law_deal f_law_income f_law_loss f_law_days f_law_more f_added_losses f_law_due f_law_same f_law d_law_draw d_law_next d_law_keywords d_law_name d_law_coins d_law_rule d_law_order d_law_orders d_law_shared_names d_law_guards d_law_pool d_law_deal d_law_income d_law_loss d_law_days d_law_more d_added_losses d_law_due d_law_same d_law) : FnOk P w K mg base CX0 4 f_law_orders d_law_orders ["_law_script", "_law_at", "_law_seed", "_law_claims", "_law_pots", "_law_others", "_law_most"] (spL phi_law_orders K) := by
  have nd : N_law_orders.Nodup := sc_law_orders.nd
  exact okL (Fb := F_law_orders) T.F_law_orders sc_law_orders rfl rfl fun cdv A outer s H E hr => have hu := hu_of hr; ⟨_, _,
    (dss_cons (ds_set (i := 7) nd rfl (by first | exact Or.inl rfl | exact Or.inr rfl) (dt_lst da_nil))
      (dss_cons (ds_forDX PassesOwn.never rfl (dix_range1 (by rfl) T.m_range (dax_cons (dx_add (DT.dx dt_int) (dx_mod (dx_callL (φ := phi_law_next) (ok_law_next T) (hr.mono (by decide)) (by rfl) T.g_law_next T.F_law_next.kp T.b_law_next (dal_t (dt_v 0) (dal_m 1 dal_nil))) (DT.dx (dt_v 6)))) dax_nil)) (dg_name (i := 8) nd rfl (by first | exact Or.inl rfl | exact Or.inr rfl)) (dss_cons (ds_set (i := 9) nd rfl (by first | exact Or.inl rfl | exact Or.inr rfl) (DV.dt (dv_ix (dv_ix (dv_v 3) (dt_mod (dt_v 8) (dt_len (by rfl) T.m_len (dv_v 3)))) dt_int)))
      (dss_cons (ds_orF (ds_ifCX (DWX.dcx (dwx_or (dcx_gt (dx_mod (dx_callL (φ := phi_law_next) (ok_law_next T) (hr.mono (by decide)) (by rfl) T.g_law_next T.F_law_next.kp T.b_law_next (dal_t (dt_v 0) (dal_m 1 dal_nil))) (DT.dx dt_int)) (DT.dv dt_int)) (dwx_or1 (DC.dcx (dc_in (dv_v 9) (DT.dv (dt_compV (own := [("_law_order_here", 10)]) rfl nd (dv_v 7) (blkOk_by (own := [("_law_order_here", 10)]) (N := N_law_orders) (sc := defScope s_law_orders) (by decide +kernel)) (fun _ _ _ _ _ => (dg_name (i := 10) nd rfl (by first | exact Or.inl rfl | exact Or.inr rfl))) (fun _ _ _ _ _ => dts_nil) (fun _ _ _ _ _ => (DV.dt (dv_ix (dv_v 10) dt_int))) (by decide)))))))) (dss_one (ds_set (i := 9) nd rfl (by first | exact Or.inl rfl | exact Or.inr rfl) (dt_call (n := 2) (φ := phi_law_name) (fun _ _ h => runF_len h) (ok_law_name T) (hr.mono (by decide)) (by rfl) T.g_law_name T.F_law_name.kp T.b_law_name (da_cons (dt_v 2) (da_cons (dt_add dt_int (dt_v 8)) da_nil))))) dss_nil))
      (dss_one (ds_appX (dp_name 7) (dx_fz (dx_callL (φ := phi_law_order) (ok_law_order T) (hr.mono (by decide)) (by rfl) T.g_law_order T.F_law_order.kp T.b_law_order (dal_t (dt_v 0) (dal_m 1 (dal_t (dt_v 9) (dal_t (dt_v 3) (dal_t (dt_v 4) (dal_t (dt_v 5) dal_nil)))))))))))))
      (dss_one (ds_ret (dt_m 7))))), by decide⟩
theorem ok_law_shared_names (T : Txt K mg f_law_draw f_law_next f_law_keywords f_law_name f_law_coins f_law_rule f_law_order f_law_orders f_law_shared_names f_law_guards f_law_pool f_law_deal f_law_income f_law_loss f_law_days f_law_more f_added_losses f_law_due f_law_same f_law d_law_draw d_law_next d_law_keywords d_law_name d_law_coins d_law_rule d_law_order d_law_orders d_law_shared_names d_law_guards d_law_pool d_law_deal d_law_income d_law_loss d_law_days d_law_more d_added_losses d_law_due d_law_same d_law) : FnOk P w K mg base CX0 1 f_law_shared_names d_law_shared_names ["_law_orders_here"] (spD 1 phi_law_shared_names K) := by
  have nd : N_law_shared_names.Nodup := sc_law_shared_names.nd
  exact okD (Fb := F_law_shared_names) T.F_law_shared_names sc_law_shared_names rfl rfl fun cdv A outer s H E hr => have hu := hu_of hr; ⟨_, _,
    (dss_cons (ds_set (i := 1) nd rfl (by first | exact Or.inl rfl | exact Or.inr rfl) (dt_lst da_nil))
      (dss_cons (ds_for PassesOwn.never rfl (di_list (dt_v 0)) (dg_name (i := 2) nd rfl (by first | exact Or.inl rfl | exact Or.inr rfl)) (dss_one (ds_for PassesOwn.never rfl (di_list (DV.dt (dv_ix (dv_v 2) dt_int))) (dg_name (i := 3) nd rfl (by first | exact Or.inl rfl | exact Or.inr rfl)) (dss_cons (ds_if (dc_eq hr.units (dv_ix (dv_v 3) dt_int) (DT.dv dt_str)) (dss_one (ds_extT (dp_name 1) (DV.dt (dv_ix (dv_v 3) dt_int)))) dss_nil)
      (dss_one (ds_if (dc_eq hr.units (dv_ix (dv_v 3) dt_int) (DT.dv dt_str)) (dss_one (ds_app 1 (DV.dt (dv_ix (dv_v 3) dt_int)))) dss_nil))))))
      (dss_one (ds_ret (dt_m 1)))))⟩
theorem ok_law_guards (T : Txt K mg f_law_draw f_law_next f_law_keywords f_law_name f_law_coins f_law_rule f_law_order f_law_orders f_law_shared_names f_law_guards f_law_pool f_law_deal f_law_income f_law_loss f_law_days f_law_more f_added_losses f_law_due f_law_same f_law d_law_draw d_law_next d_law_keywords d_law_name d_law_coins d_law_rule d_law_order d_law_orders d_law_shared_names d_law_guards d_law_pool d_law_deal d_law_income d_law_loss d_law_days d_law_more d_added_losses d_law_due d_law_same d_law) : FnOk P w K mg base CX0 3 f_law_guards d_law_guards ["_law_script", "_law_at", "_law_claims", "_law_pots", "_law_orders_here"] (spL phi_law_guards K) := by
  have nd : N_law_guards.Nodup := sc_law_guards.nd
  exact okL (Fb := F_law_guards) T.F_law_guards sc_law_guards rfl rfl fun cdv A outer s H E hr => have hu := hu_of hr; ⟨_, _,
    (dss_cons (ds_set (i := 5) nd rfl (by first | exact Or.inl rfl | exact Or.inr rfl) (dt_fz (dt_call (n := 1) (φ := phi_law_shared_names) (fun _ _ h => runF_len h) (ok_law_shared_names T) (hr.mono (by decide)) (by rfl) T.g_law_shared_names T.F_law_shared_names.kp T.b_law_shared_names (da_cons (dt_v 4) da_nil))))
      (dss_cons (ds_setLc (i := 6) (own := [("_law_claim", 7)]) rfl nd rfl rfl (sw_true rfl rfl rfl (by decide +kernel)) (di_list (dt_v 2)) (blkOk_by (own := [("_law_claim", 7)]) (N := N_law_guards) (sc := defScope s_law_guards) (by decide +kernel)) (fun _ _ _ _ _ => (dg_name (i := 7) nd rfl (by first | exact Or.inl rfl | exact Or.inr rfl))) (fun _ _ _ _ _ => (dts_one (dc_notIn (dv_ix (dv_v 7) dt_int) (dv_v 5)))) (fun _ _ _ _ _ => (DV.dt (dv_ix (dv_v 7) dt_int))) (by decide))
      (dss_cons (ds_set (i := 8) nd rfl (by first | exact Or.inl rfl | exact Or.inr rfl) (dt_lst da_nil))
      (dss_cons (ds_if (dc_gt (DT.dv (dt_len (by rfl) T.m_len (dv_v 3))) (DT.dv dt_int)) (dss_one (ds_forDX PassesOwn.never rfl (dix_range1 (by rfl) T.m_range (dax_cons (dx_min2 rfl (by rfl) T.m_min (dax_cons (DT.dx (dt_len (by rfl) T.m_len (dv_v 6))) (dax_cons (dx_mod (dx_callL (φ := phi_law_next) (ok_law_next T) (hr.mono (by decide)) (by rfl) T.g_law_next T.F_law_next.kp T.b_law_next (dal_t (dt_v 0) (dal_m 1 dal_nil))) (DT.dx dt_int)) dax_nil))) dax_nil)) (dg_name (i := 9) nd rfl (by first | exact Or.inl rfl | exact Or.inr rfl)) (dss_one (ds_appX (dp_name 8) (dx_fz (dx_tup (dax_cons (dx_ixL (dx_ix (dt_v 3) (dx_mod (dx_callL (φ := phi_law_next) (ok_law_next T) (hr.mono (by decide)) (by rfl) T.g_law_next T.F_law_next.kp T.b_law_next (dal_t (dt_v 0) (dal_m 1 dal_nil))) (DT.dx (dt_len (by rfl) T.m_len (dv_v 3))))) dt_int) (dax_cons (DT.dx (DV.dt (dv_ix (dv_v 6) (dt_v 9)))) dax_nil)))))))) dss_nil)
      (dss_one (ds_ret (dt_m 8))))))), by decide⟩
theorem ok_law_pool (T : Txt K mg f_law_draw f_law_next f_law_keywords f_law_name f_law_coins f_law_rule f_law_order f_law_orders f_law_shared_names f_law_guards f_law_pool f_law_deal f_law_income f_law_loss f_law_days f_law_more f_added_losses f_law_due f_law_same f_law d_law_draw d_law_next d_law_keywords d_law_name d_law_coins d_law_rule d_law_order d_law_orders d_law_shared_names d_law_guards d_law_pool d_law_deal d_law_income d_law_loss d_law_days d_law_more d_added_losses d_law_due d_law_same d_law) : FnOk P w K mg base CX0 5 f_law_pool d_law_pool ["_law_script", "_law_at", "_law_seed", "_law_k", "_law_others", "_law_most"] (spL phi_law_pool K) := by
  have nd : N_law_pool.Nodup := sc_law_pool.nd
  exact okL (Fb := F_law_pool) T.F_law_pool sc_law_pool rfl rfl fun cdv A outer s H E hr => have hu := hu_of hr; ⟨_, _,
    (dss_cons (ds_setX (i := 6) nd rfl (by first | exact Or.inl rfl | exact Or.inr rfl) (dx_callL (φ := phi_law_next) (ok_law_next T) (hr.mono (by decide)) (by rfl) T.g_law_next T.F_law_next.kp T.b_law_next (dal_t (dt_v 0) (dal_m 1 dal_nil))))
      (dss_cons (ds_set (i := 7) nd rfl (by first | exact Or.inl rfl | exact Or.inr rfl) (dt_lst da_nil))
      (dss_cons (ds_for PassesOwn.never rfl (di_range1 (by rfl) T.m_range (da_cons (dt_add dt_int (dt_mod (dt_v 6) dt_int)) da_nil)) (dg_name (i := 8) nd rfl (by first | exact Or.inl rfl | exact Or.inr rfl)) (dss_cons (ds_setX (i := 9) nd rfl (by first | exact Or.inl rfl | exact Or.inr rfl) (dx_call (n := 1) (φ := phi_law_coins) (fun _ _ h => runF_len h) (ok_law_coins T) (hr.mono (by decide)) (by rfl) T.g_law_coins T.F_law_coins.kp T.b_law_coins (dax_cons (dx_fz (dx_callL (φ := phi_law_next) (ok_law_next T) (hr.mono (by decide)) (by rfl) T.g_law_next T.F_law_next.kp T.b_law_next (dal_t (dt_v 0) (dal_m 1 dal_nil)))) dax_nil)))
      (dss_one (ds_appX (dp_name 7) (dx_fz (dx_tup (dax_cons (DT.dx (dt_call (n := 2) (φ := phi_law_name) (fun _ _ h => runF_len h) (ok_law_name T) (hr.mono (by decide)) (by rfl) T.g_law_name T.F_law_name.kp T.b_law_name (da_cons (dt_v 2) (da_cons (dt_add (dt_add (dt_mul dt_int (dt_v 3)) dt_int) (dt_v 8)) da_nil)))) (dax_cons (DT.dx (dt_v 9)) (dax_cons (dx_call (n := 1) (φ := phi_law_coins) (fun _ _ h => runF_len h) (ok_law_coins T) (hr.mono (by decide)) (by rfl) T.g_law_coins T.F_law_coins.kp T.b_law_coins (dax_cons (dx_fz (dx_callL (φ := phi_law_next) (ok_law_next T) (hr.mono (by decide)) (by rfl) T.g_law_next T.F_law_next.kp T.b_law_next (dal_t (dt_v 0) (dal_m 1 dal_nil)))) dax_nil)) dax_nil)))))))))
      (dss_cons (ds_setLcX (i := 10) (own := [("_law_j", 8)]) rfl nd rfl rfl (sw_true rfl rfl rfl (by decide +kernel)) (di_range1 (by rfl) T.m_range (da_cons (dt_mod (dt_div (dt_v 6) dt_int) dt_int) da_nil)) (blkOk_by (own := [("_law_j", 8)]) (N := N_law_pool) (sc := defScope s_law_pool) (by decide +kernel)) (fun _ _ _ _ _ => (dg_name (i := 8) nd rfl (by first | exact Or.inl rfl | exact Or.inr rfl))) (fun _ _ _ _ _ => dts_nil) (fun _ _ _ _ _ => (dx_tup (dax_cons (DT.dx (dt_call (n := 2) (φ := phi_law_name) (fun _ _ h => runF_len h) (ok_law_name T) (hr.mono (by decide)) (by rfl) T.g_law_name T.F_law_name.kp T.b_law_name (da_cons (dt_v 2) (da_cons (dt_add (dt_add (dt_mul dt_int (dt_v 3)) dt_int) (dt_v 8)) da_nil)))) (dax_cons (dx_call (n := 1) (φ := phi_law_coins) (fun _ _ h => runF_len h) (ok_law_coins T) (hr.mono (by decide)) (by rfl) T.g_law_coins T.F_law_coins.kp T.b_law_coins (dax_cons (dx_fz (dx_callL (φ := phi_law_next) (ok_law_next T) (hr.mono (by decide)) (by rfl) T.g_law_next T.F_law_next.kp T.b_law_next (dal_t (dt_v 0) (dal_m 1 dal_nil)))) dax_nil)) dax_nil)))) (by decide))
      (dss_cons (ds_set (i := 11) nd rfl (by first | exact Or.inl rfl | exact Or.inr rfl) (dt_len (by rfl) T.m_len (dv_v 7)))
      (dss_cons (ds_setLc (i := 12) (own := [("_law_j", 8)]) rfl nd rfl rfl (sw_true rfl rfl rfl (by decide +kernel)) (di_range1 (by rfl) T.m_range (da_cons (dt_mod (dt_div (dt_v 6) dt_int) (dt_add (dt_v 11) dt_int)) da_nil)) (blkOk_by (own := [("_law_j", 8)]) (N := N_law_pool) (sc := defScope s_law_pool) (by decide +kernel)) (fun _ _ _ _ _ => (dg_name (i := 8) nd rfl (by first | exact Or.inl rfl | exact Or.inr rfl))) (fun _ _ _ _ _ => dts_nil) (fun _ _ _ _ _ => (DV.dt (dv_ix (dv_ix (dv_v 7) (dt_mod (dt_add (dt_div (dt_v 6) dt_int) (dt_v 8)) (dt_v 11))) dt_int))) (by decide))
      (dss_cons (ds_setX (i := 13) nd rfl (by first | exact Or.inl rfl | exact Or.inr rfl) (dx_callL (φ := phi_law_orders) (ok_law_orders T) (hr.mono (by decide)) (by rfl) T.g_law_orders T.F_law_orders.kp T.b_law_orders (dal_t (dt_v 0) (dal_m 1 (dal_t (dt_v 2) (dal_t (dt_v 7) (dal_t (dt_v 10) (dal_t (dt_v 4) (dal_t (dt_v 5) dal_nil)))))))))
      (dss_cons (ds_set (i := 14) nd rfl (by first | exact Or.inl rfl | exact Or.inr rfl) (dt_lst da_nil))
      (dss_cons (ds_for PassesOwn.never rfl (di_range1 (by rfl) T.m_range (da_cons (dt_mod (dt_div (dt_v 6) dt_int) dt_int) da_nil)) (dg_name (i := 8) nd rfl (by first | exact Or.inl rfl | exact Or.inr rfl)) (dss_cons (ds_setX (i := 15) nd rfl (by first | exact Or.inl rfl | exact Or.inr rfl) (dx_callL (φ := phi_law_next) (ok_law_next T) (hr.mono (by decide)) (by rfl) T.g_law_next T.F_law_next.kp T.b_law_next (dal_t (dt_v 0) (dal_m 1 dal_nil))))
      (dss_one (ds_app 14 (dt_fz (dt_tup (da_cons (DV.dt (dv_ix (dv_ix (dv_v 7) (dt_mod (dt_v 15) (dt_v 11))) dt_int)) (da_cons (dt_add dt_int (dt_mod (dt_div (dt_v 15) dt_int) dt_int)) (da_cons (DV.dt (dv_ix (dv_ix (dv_v 13) (dt_mod (dt_div (dt_v 15) dt_int) (dt_len (by rfl) T.m_len (dv_v 13)))) dt_int)) da_nil)))))))))
      (dss_cons (ds_setX (i := 16) nd rfl (by first | exact Or.inl rfl | exact Or.inr rfl) (dx_callL (φ := phi_law_guards) (ok_law_guards T) (hr.mono (by decide)) (by rfl) T.g_law_guards T.F_law_guards.kp T.b_law_guards (dal_t (dt_v 0) (dal_m 1 (dal_t (dt_v 7) (dal_t (dt_v 10) (dal_t (dt_v 13) dal_nil)))))))
      (dss_one (ds_ret (dt_tup (da_cons (dt_call (n := 2) (φ := phi_law_name) (fun _ _ h => runF_len h) (ok_law_name T) (hr.mono (by decide)) (by rfl) T.g_law_name T.F_law_name.kp T.b_law_name (da_cons (dt_v 2) (da_cons (dt_mul dt_int (dt_v 3)) da_nil))) (da_cons (dt_m 7) (da_cons (dt_m 10) (da_cons (dt_m 12) (da_cons (dt_m 13) (da_cons (dt_m 14) (da_cons (dt_m 16) da_nil)))))))))))))))))))), by decide⟩
theorem ok_law_deal (T : Txt K mg f_law_draw f_law_next f_law_keywords f_law_name f_law_coins f_law_rule f_law_order f_law_orders f_law_shared_names f_law_guards f_law_pool f_law_deal f_law_income f_law_loss f_law_days f_law_more f_added_losses f_law_due f_law_same f_law d_law_draw d_law_next d_law_keywords d_law_name d_law_coins d_law_rule d_law_order d_law_orders d_law_shared_names d_law_guards d_law_pool d_law_deal d_law_income d_law_loss d_law_days d_law_more d_added_losses d_law_due d_law_same d_law) : FnOk P w K mg base CX0 6 f_law_deal d_law_deal ["_law_script"] (spD 1 phi_law_deal K) := by
  have nd : N_law_deal.Nodup := sc_law_deal.nd
  exact okD (Fb := F_law_deal) T.F_law_deal sc_law_deal rfl rfl fun cdv A outer s H E hr => have hu := hu_of hr; ⟨_, _,
    (dss_cons (ds_set (i := 1) nd rfl (by first | exact Or.inl rfl | exact Or.inr rfl) (dt_lst (da_cons dt_int da_nil)))
      (dss_cons (ds_set (i := 2) nd rfl (by first | exact Or.inl rfl | exact Or.inr rfl) (dt_mod (dt_call (n := 2) (φ := phi_law_draw) (fun _ _ h => runF_len h) (ok_law_draw T) (hr.mono (by decide)) (by rfl) T.g_law_draw T.F_law_draw.kp T.b_law_draw (da_cons (dt_v 0) (da_cons dt_int da_nil))) (dt_pow dt_int dt_int)))
      (dss_cons (ds_setX (i := 3) nd rfl (by first | exact Or.inl rfl | exact Or.inr rfl) (dx_callL (φ := phi_law_next) (ok_law_next T) (hr.mono (by decide)) (by rfl) T.g_law_next T.F_law_next.kp T.b_law_next (dal_t (dt_v 0) (dal_m 1 dal_nil))))
      (dss_cons (ds_set (i := 4) nd rfl (by first | exact Or.inl rfl | exact Or.inr rfl) (DV.dt (dv_ix (DT.dv (dt_lst (da_cons dt_int (da_cons dt_int (da_cons dt_int (da_cons dt_int (da_cons dt_int (da_cons dt_int da_nil)))))))) (dt_mod (dt_v 3) dt_int))))
      (dss_cons (ds_set (i := 5) nd rfl (by first | exact Or.inl rfl | exact Or.inr rfl) (dt_comp (own := [("_law_k", 6)]) rfl nd (di_range1 (by rfl) T.m_range (da_cons (dt_v 4) da_nil)) (blkOk_by (own := [("_law_k", 6)]) (N := N_law_deal) (sc := defScope s_law_deal) (by decide +kernel)) (fun _ _ _ _ _ => (dg_name (i := 6) nd rfl (by first | exact Or.inl rfl | exact Or.inr rfl))) (fun _ _ _ _ _ => dts_nil) (fun _ _ _ _ _ => (dt_call (n := 2) (φ := phi_law_name) (fun _ _ h => runF_len h) (ok_law_name T) (hr.mono (by decide)) (by rfl) T.g_law_name T.F_law_name.kp T.b_law_name (da_cons (dt_v 2) (da_cons (dt_mul dt_int (dt_v 6)) da_nil)))) (by decide)))
      (dss_cons (ds_set (i := 7) nd rfl (by first | exact Or.inl rfl | exact Or.inr rfl) (dt_lst da_nil))
      (dss_cons (ds_for PassesOwn.never rfl (di_range1 (by rfl) T.m_range (da_cons (dt_v 4) da_nil)) (dg_name (i := 6) nd rfl (by first | exact Or.inl rfl | exact Or.inr rfl)) (dss_cons (ds_setLcV (i := 8) (own := [("_law_name_here", 9)]) rfl nd rfl rfl (sw_true rfl rfl rfl (by decide +kernel)) (dv_v 5) (blkOk_by (own := [("_law_name_here", 9)]) (N := N_law_deal) (sc := defScope s_law_deal) (by decide +kernel)) (fun _ _ _ _ _ => (dg_name (i := 9) nd rfl (by first | exact Or.inl rfl | exact Or.inr rfl))) (fun _ _ _ _ _ => (dts_one (dc_ne hr.units (dv_v 9) (dv_ix (dv_v 5) (dt_v 6))))) (fun _ _ _ _ _ => (dt_v 9)) (by decide))
      (dss_one (ds_appX (dp_name 7) (dx_fz (dx_callL (φ := phi_law_pool) (ok_law_pool T) (hr.mono (by decide)) (by rfl) T.g_law_pool T.F_law_pool.kp T.b_law_pool (dal_t (dt_v 0) (dal_m 1 (dal_t (dt_v 2) (dal_t (dt_v 6) (dal_t (dt_v 8) (dal_t (DV.dt (dv_ix (DT.dv (dt_lst (da_cons dt_int (da_cons dt_int da_nil)))) (dt_int1 (by rfl) T.m_int (DT.dv (dt_eq hr.units (dv_v 4) (DT.dv dt_int)))))) dal_nil))))))))))))
      (dss_one (ds_ret (dt_m 7))))))))))⟩
theorem ok_law_income (T : Txt K mg f_law_draw f_law_next f_law_keywords f_law_name f_law_coins f_law_rule f_law_order f_law_orders f_law_shared_names f_law_guards f_law_pool f_law_deal f_law_income f_law_loss f_law_days f_law_more f_added_losses f_law_due f_law_same f_law d_law_draw d_law_next d_law_keywords d_law_name d_law_coins d_law_rule d_law_order d_law_orders d_law_shared_names d_law_guards d_law_pool d_law_deal d_law_income d_law_loss d_law_days d_law_more d_added_losses d_law_due d_law_same d_law) : FnOk P w K mg base CX0 1 f_law_income d_law_income ["_law_n"] (spD 1 phi_law_income K) := by
  have nd : N_law_income.Nodup := sc_law_income.nd
  exact okD (Fb := F_law_income) T.F_law_income sc_law_income rfl rfl fun cdv A outer s H E hr => have hu := hu_of hr; ⟨_, _,
    (dss_cons (ds_set (i := 1) nd rfl (by first | exact Or.inl rfl | exact Or.inr rfl) (dt_mod (dt_v 0) dt_int))
      (dss_cons (ds_if (dc_eq hr.units (dv_v 1) (DT.dv dt_int)) (dss_one (ds_ret dt_int)) dss_nil)
      (dss_cons (ds_if (dc_lt (dv_v 1) (DT.dv dt_int)) (dss_one (ds_ret (dt_mod (dt_div (dt_v 0) dt_int) dt_int))) dss_nil)
      (dss_cons (ds_if (dc_eq hr.units (dv_v 1) (DT.dv dt_int)) (dss_one (ds_ret (dt_mod (dt_div (dt_v 0) dt_int) dt_int))) dss_nil)
      (dss_cons (ds_if (dc_eq hr.units (dv_v 1) (DT.dv dt_int)) (dss_one (ds_ret (dt_mod (dt_div (dt_v 0) dt_int) (dt_pow dt_int dt_int)))) dss_nil)
      (dss_one (ds_ret (dt_mod (dt_div (dt_v 0) dt_int) (dt_pow dt_int dt_int)))))))))⟩
theorem ok_law_loss (T : Txt K mg f_law_draw f_law_next f_law_keywords f_law_name f_law_coins f_law_rule f_law_order f_law_orders f_law_shared_names f_law_guards f_law_pool f_law_deal f_law_income f_law_loss f_law_days f_law_more f_added_losses f_law_due f_law_same f_law d_law_draw d_law_next d_law_keywords d_law_name d_law_coins d_law_rule d_law_order d_law_orders d_law_shared_names d_law_guards d_law_pool d_law_deal d_law_income d_law_loss d_law_days d_law_more d_added_losses d_law_due d_law_same d_law) : FnOk P w K mg base CX0 1 f_law_loss d_law_loss ["_law_n"] (spD 1 phi_law_loss K) := by
  have nd : N_law_loss.Nodup := sc_law_loss.nd
  exact okD (Fb := F_law_loss) T.F_law_loss sc_law_loss rfl rfl fun cdv A outer s H E hr => have hu := hu_of hr; ⟨_, _,
    (dss_cons (ds_set (i := 1) nd rfl (by first | exact Or.inl rfl | exact Or.inr rfl) (dt_mod (dt_v 0) dt_int))
      (dss_cons (ds_if (dc_lt (dv_v 1) (DT.dv dt_int)) (dss_one (ds_ret dt_int)) dss_nil)
      (dss_cons (ds_if (dc_eq hr.units (dv_v 1) (DT.dv dt_int)) (dss_one (ds_ret (dt_mod (dt_div (dt_v 0) dt_int) dt_int))) dss_nil)
      (dss_cons (ds_if (dc_eq hr.units (dv_v 1) (DT.dv dt_int)) (dss_one (ds_ret (dt_mod (dt_div (dt_v 0) dt_int) (dt_pow dt_int dt_int)))) dss_nil)
      (dss_one (ds_ret (dt_mod (dt_div (dt_v 0) dt_int) (dt_pow dt_int dt_int))))))))⟩
theorem ok_law_days (T : Txt K mg f_law_draw f_law_next f_law_keywords f_law_name f_law_coins f_law_rule f_law_order f_law_orders f_law_shared_names f_law_guards f_law_pool f_law_deal f_law_income f_law_loss f_law_days f_law_more f_added_losses f_law_due f_law_same f_law d_law_draw d_law_next d_law_keywords d_law_name d_law_coins d_law_rule d_law_order d_law_orders d_law_shared_names d_law_guards d_law_pool d_law_deal d_law_income d_law_loss d_law_days d_law_more d_added_losses d_law_due d_law_same d_law) : FnOk P w K mg base CX0 2 f_law_days d_law_days ["_law_script", "_law_deal_here"] (spD 2 phi_law_days K) := by
  have nd : N_law_days.Nodup := sc_law_days.nd
  exact okD (Fb := F_law_days) T.F_law_days sc_law_days rfl rfl fun cdv A outer s H E hr => have hu := hu_of hr; ⟨_, _,
    (dss_cons (ds_set (i := 2) nd rfl (by first | exact Or.inl rfl | exact Or.inr rfl) (dt_lst da_nil))
      (dss_cons (ds_for PassesOwn.never rfl (di_range1 (by rfl) T.m_range (da_cons (dt_mod (dt_call (n := 2) (φ := phi_law_draw) (fun _ _ h => runF_len h) (ok_law_draw T) (hr.mono (by decide)) (by rfl) T.g_law_draw T.F_law_draw.kp T.b_law_draw (da_cons (dt_v 0) (da_cons dt_int da_nil))) dt_int) da_nil)) (dg_name (i := 3) nd rfl (by first | exact Or.inl rfl | exact Or.inr rfl)) (dss_cons (ds_setLc (i := 4) (own := [("_law_k", 5)]) rfl nd rfl rfl (sw_true rfl rfl rfl (by decide +kernel)) (di_range1 (by rfl) T.m_range (da_cons (dt_len (by rfl) T.m_len (dv_v 1)) da_nil)) (blkOk_by (own := [("_law_k", 5)]) (N := N_law_days) (sc := defScope s_law_days) (by decide +kernel)) (fun _ _ _ _ _ => (dg_name (i := 5) nd rfl (by first | exact Or.inl rfl | exact Or.inr rfl))) (fun _ _ _ _ _ => dts_nil) (fun _ _ _ _ _ => (dt_call (n := 1) (φ := phi_law_income) (fun _ _ h => runF_len h) (ok_law_income T) (hr.mono (by decide)) (by rfl) T.g_law_income T.F_law_income.kp T.b_law_income (da_cons (dt_call (n := 2) (φ := phi_law_draw) (fun _ _ h => runF_len h) (ok_law_draw T) (hr.mono (by decide)) (by rfl) T.g_law_draw T.F_law_draw.kp T.b_law_draw (da_cons (dt_v 0) (da_cons (dt_add (dt_add dt_int (dt_mul dt_int (dt_v 3))) (dt_v 5)) da_nil))) da_nil))) (by decide))
      (dss_cons (ds_setLc (i := 6) (own := [("_law_k", 5)]) rfl nd rfl rfl (sw_true rfl rfl rfl (by decide +kernel)) (di_range1 (by rfl) T.m_range (da_cons (dt_len (by rfl) T.m_len (dv_v 1)) da_nil)) (blkOk_by (own := [("_law_k", 5)]) (N := N_law_days) (sc := defScope s_law_days) (by decide +kernel)) (fun _ _ _ _ _ => (dg_name (i := 5) nd rfl (by first | exact Or.inl rfl | exact Or.inr rfl))) (fun _ _ _ _ _ => dts_nil) (fun _ _ _ _ _ => (dt_call (n := 1) (φ := phi_law_loss) (fun _ _ h => runF_len h) (ok_law_loss T) (hr.mono (by decide)) (by rfl) T.g_law_loss T.F_law_loss.kp T.b_law_loss (da_cons (dt_call (n := 2) (φ := phi_law_draw) (fun _ _ h => runF_len h) (ok_law_draw T) (hr.mono (by decide)) (by rfl) T.g_law_draw T.F_law_draw.kp T.b_law_draw (da_cons (dt_v 0) (da_cons (dt_add (dt_add dt_int (dt_mul dt_int (dt_v 3))) (dt_v 5)) da_nil))) da_nil))) (by decide))
      (dss_one (ds_app 2 (dt_fz (dt_tup (da_cons (dt_v 4) (da_cons (dt_v 6) da_nil)))))))))
      (dss_one (ds_ret (dt_m 2)))))⟩
theorem ok_law_more (T : Txt K mg f_law_draw f_law_next f_law_keywords f_law_name f_law_coins f_law_rule f_law_order f_law_orders f_law_shared_names f_law_guards f_law_pool f_law_deal f_law_income f_law_loss f_law_days f_law_more f_added_losses f_law_due f_law_same f_law d_law_draw d_law_next d_law_keywords d_law_name d_law_coins d_law_rule d_law_order d_law_orders d_law_shared_names d_law_guards d_law_pool d_law_deal d_law_income d_law_loss d_law_days d_law_more d_added_losses d_law_due d_law_same d_law) : FnOk P w K mg base CX0 3 f_law_more d_law_more ["_law_script", "_law_deal_here", "_law_days_here"] (spD 3 phi_law_more K) := by
  have nd : N_law_more.Nodup := sc_law_more.nd
  exact okD (Fb := F_law_more) T.F_law_more sc_law_more rfl rfl fun cdv A outer s H E hr => have hu := hu_of hr; ⟨_, _,
    (dss_cons (ds_set (i := 3) nd rfl (by first | exact Or.inl rfl | exact Or.inr rfl) (dt_lst da_nil))
      (dss_cons (ds_for PassesOwn.never rfl (di_range1 (by rfl) T.m_range (da_cons (dt_mod (dt_call (n := 2) (φ := phi_law_draw) (fun _ _ h => runF_len h) (ok_law_draw T) (hr.mono (by decide)) (by rfl) T.g_law_draw T.F_law_draw.kp T.b_law_draw (da_cons (dt_v 0) (da_cons dt_int da_nil))) dt_int) da_nil)) (dg_name (i := 4) nd rfl (by first | exact Or.inl rfl | exact Or.inr rfl)) (dss_cons (ds_set (i := 5) nd rfl (by first | exact Or.inl rfl | exact Or.inr rfl) (dt_fz (dt_call (n := 2) (φ := phi_law_draw) (fun _ _ h => runF_len h) (ok_law_draw T) (hr.mono (by decide)) (by rfl) T.g_law_draw T.F_law_draw.kp T.b_law_draw (da_cons (dt_v 0) (da_cons (dt_add dt_int (dt_v 4)) da_nil)))))
      (dss_cons (ds_set (i := 6) nd rfl (by first | exact Or.inl rfl | exact Or.inr rfl) (DV.dt (dv_ix (dv_ix (dv_v 1) (dt_mod (dt_v 5) (dt_len (by rfl) T.m_len (dv_v 1)))) dt_int)))
      (dss_cons (ds_if (dc_eq hr.units (DT.dv (dt_mod (dt_div (dt_v 5) dt_int) dt_int)) (DT.dv dt_int)) (dss_one (ds_set (i := 6) nd rfl (by first | exact Or.inl rfl | exact Or.inr rfl) (dt_call (n := 2) (φ := phi_law_name) (fun _ _ h => runF_len h) (ok_law_name T) (hr.mono (by decide)) (by rfl) T.g_law_name T.F_law_name.kp T.b_law_name (da_cons (dt_mod (dt_call (n := 2) (φ := phi_law_draw) (fun _ _ h => runF_len h) (ok_law_draw T) (hr.mono (by decide)) (by rfl) T.g_law_draw T.F_law_draw.kp T.b_law_draw (da_cons (dt_v 0) (da_cons dt_int da_nil))) (dt_pow dt_int dt_int)) (da_cons dt_int da_nil))))) dss_nil)
      (dss_cons (ds_set (i := 7) nd rfl (by first | exact Or.inl rfl | exact Or.inr rfl) (dt_mod (dt_div (dt_v 5) dt_int) (dt_add (dt_len (by rfl) T.m_len (dv_v 2)) dt_int)))
      (dss_cons (ds_set (i := 8) nd rfl (by first | exact Or.inl rfl | exact Or.inr rfl) (DV.dt (dv_ix (DT.dv (dt_lst (da_cons (dt_mod (dt_div (dt_v 5) dt_int) dt_int) (da_cons (dt_mod (dt_div (dt_v 5) dt_int) (dt_pow dt_int dt_int)) (da_cons (dt_mod (dt_div (dt_v 5) dt_int) (dt_pow dt_int dt_int)) da_nil))))) (dt_mod (dt_div (dt_v 5) dt_int) dt_int))))
      (dss_one (ds_app 3 (dt_fz (dt_tup (da_cons (dt_v 7) (da_cons (dt_v 6) (da_cons (dt_v 8) da_nil)))))))))))))
      (dss_one (ds_ret (dt_m 3)))))⟩
theorem ok_added_losses (T : Txt K mg f_law_draw f_law_next f_law_keywords f_law_name f_law_coins f_law_rule f_law_order f_law_orders f_law_shared_names f_law_guards f_law_pool f_law_deal f_law_income f_law_loss f_law_days f_law_more f_added_losses f_law_due f_law_same f_law d_law_draw d_law_next d_law_keywords d_law_name d_law_coins d_law_rule d_law_order d_law_orders d_law_shared_names d_law_guards d_law_pool d_law_deal d_law_income d_law_loss d_law_days d_law_more d_added_losses d_law_due d_law_same d_law) : FnOk P w K mg base CX0 1 f_added_losses d_added_losses ["deal", "days", "rows"] (spD 3 phi_added_losses K) := by
  have nd : N_added_losses.Nodup := sc_added_losses.nd
  exact okD (Fb := F_added_losses) T.F_added_losses sc_added_losses rfl rfl fun cdv A outer s H E hr => have hu := hu_of hr; ⟨_, _,
    (dss_cons (ds_set (i := 3) nd rfl (by first | exact Or.inl rfl | exact Or.inr rfl) dt_dn)
      (dss_cons (ds_for PassesOwn.never rfl (di_enum (by rfl) T.m_enumerate (da_cons (dt_v 0) da_nil)) (dg_tup rfl (dgs_cons (dg_name (i := 4) nd rfl (by first | exact Or.inl rfl | exact Or.inr rfl)) (dgs_cons (dg_name (i := 5) nd rfl (by first | exact Or.inl rfl | exact Or.inr rfl)) dgs_nil))) (dss_one (ds_putD 3 hu (dt_v 4) (DV.dt (dv_ix (dv_v 5) dt_int)))))
      (dss_cons (ds_setLc (i := 6) (own := [("incomes", 7), ("losses", 8)]) rfl nd rfl rfl (sw_true rfl rfl rfl (by decide +kernel)) (di_list (dt_v 1)) (blkOk_by (own := [("incomes", 7), ("losses", 8)]) (N := N_added_losses) (sc := defScope s_added_losses) (by decide +kernel)) (fun _ _ _ _ _ => (dg_tup rfl (dgs_cons (dg_name (i := 7) nd rfl (by first | exact Or.inl rfl | exact Or.inr rfl)) (dgs_cons (dg_name (i := 8) nd rfl (by first | exact Or.inl rfl | exact Or.inr rfl)) dgs_nil)))) (fun _ _ _ _ _ => dts_nil) (fun _ _ _ _ _ => (dt_tup (da_cons (dt_list (by rfl) T.m_list (dv_v 7)) (da_cons (dt_list (by rfl) T.m_list (dv_v 8)) da_nil)))) (by decide))
      (dss_cons (ds_for PassesOwn.never rfl (di_list (dt_v 2)) (dg_tup rfl (dgs_cons (dg_name (i := 9) nd rfl (by first | exact Or.inl rfl | exact Or.inr rfl)) (dgs_cons (dg_name (i := 10) nd rfl (by first | exact Or.inl rfl | exact Or.inr rfl)) (dgs_cons (dg_name (i := 11) nd rfl (by first | exact Or.inl rfl | exact Or.inr rfl)) dgs_nil)))) (dss_one (ds_if (DW.dc (dw_and (dc_din hu (dv_v 10) (dv_v 3)) (dw_and1 (dc_chain (p := bLe) (q := bLe) op_le op_le dt_int (dt_v 9) (dt_len (by rfl) T.m_len (dv_v 6)))))) (dss_one (ds_augP (hh := fun i j => i + j) ip_add (dp_ix (dp_ix (dp_name 6) (dt_sub (dt_v 9) dt_int)) dt_int) (dt_dix hu (dv_v 3) (dt_v 10)) (dt_v 11))) dss_nil)))
      (dss_one (ds_ret (dt_m 6)))))))⟩
theorem ok_law_due (T : Txt K mg f_law_draw f_law_next f_law_keywords f_law_name f_law_coins f_law_rule f_law_order f_law_orders f_law_shared_names f_law_guards f_law_pool f_law_deal f_law_income f_law_loss f_law_days f_law_more f_added_losses f_law_due f_law_same f_law d_law_draw d_law_next d_law_keywords d_law_name d_law_coins d_law_rule d_law_order d_law_orders d_law_shared_names d_law_guards d_law_pool d_law_deal d_law_income d_law_loss d_law_days d_law_more d_added_losses d_law_due d_law_same d_law) : FnOk P w K mg base CX0 1 f_law_due d_law_due ["_law_deal_here", "_law_days_here", "_law_rows"] (spD 3 phi_law_due K) := by
  have nd : N_law_due.Nodup := sc_law_due.nd
  exact okD (Fb := F_law_due) T.F_law_due sc_law_due rfl rfl fun cdv A outer s H E hr => have hu := hu_of hr; ⟨_, _,
    (dss_cons (ds_set (i := 3) nd rfl (by first | exact Or.inl rfl | exact Or.inr rfl) (dt_lst da_nil))
      (dss_cons (ds_for PassesOwn.never rfl (di_range1 (by rfl) T.m_range (da_cons (dt_len (by rfl) T.m_len (dv_v 1)) da_nil)) (dg_name (i := 4) nd rfl (by first | exact Or.inl rfl | exact Or.inr rfl)) (dss_cons (ds_set (i := 5) nd rfl (by first | exact Or.inl rfl | exact Or.inr rfl) (dt_lst da_nil))
      (dss_cons (ds_for PassesOwn.never rfl (di_range1 (by rfl) T.m_range (da_cons (dt_len (by rfl) T.m_len (dv_v 0)) da_nil)) (dg_name (i := 6) nd rfl (by first | exact Or.inl rfl | exact Or.inr rfl)) (dss_cons (ds_setLc (i := 7) (own := [("_law_row", 8)]) rfl nd rfl rfl (sw_true rfl rfl rfl (by decide +kernel)) (di_list (dt_v 2)) (blkOk_by (own := [("_law_row", 8)]) (N := N_law_due) (sc := defScope s_law_due) (by decide +kernel)) (fun _ _ _ _ _ => (dg_name (i := 8) nd rfl (by first | exact Or.inl rfl | exact Or.inr rfl))) (fun _ _ _ _ _ => (dts_one (DW.dc (dw_and (dc_eq hr.units (dv_ix (dv_v 8) dt_int) (DT.dv (dt_add (dt_v 4) dt_int))) (dw_and1 (dc_eq hr.units (dv_ix (dv_v 8) dt_int) (dv_ix (dv_ix (dv_v 0) (dt_v 6)) dt_int))))))) (fun _ _ _ _ _ => (DV.dt (dv_ix (dv_v 8) dt_int))) (by decide))
      (dss_one (ds_app 5 (dt_add (DV.dt (dv_ix (dv_ix (dv_ix (dv_v 1) (dt_v 4)) dt_int) (dt_v 6))) (dt_sum rfl (by rfl) T.m_sum (dv_v 7)))))))
      (dss_one (ds_app 3 (dt_fz (dt_tup (da_cons (dt_list (by rfl) T.m_list (dv_ix (dv_ix (dv_v 1) (dt_v 4)) dt_int)) (da_cons (dt_v 5) da_nil)))))))))
      (dss_one (ds_ret (dt_m 3)))))⟩
theorem ok_law_same (T : Txt K mg f_law_draw f_law_next f_law_keywords f_law_name f_law_coins f_law_rule f_law_order f_law_orders f_law_shared_names f_law_guards f_law_pool f_law_deal f_law_income f_law_loss f_law_days f_law_more f_added_losses f_law_due f_law_same f_law d_law_draw d_law_next d_law_keywords d_law_name d_law_coins d_law_rule d_law_order d_law_orders d_law_shared_names d_law_guards d_law_pool d_law_deal d_law_income d_law_loss d_law_days d_law_more d_added_losses d_law_due d_law_same d_law) : ∀ n : Nat, FnOk P w K mg base CX0 (n + 1) f_law_same d_law_same ["_law_found", "_law_due_here"] (spD 2 (phi_law_same n) K)
  | 0 => fn_none
  | n + 1 => by
    have nd : N_law_same.Nodup := sc_law_same.nd
    have IH := ok_law_same T n
    rw [show n + 1 + 1 = n + 1 + 1 by omega]
    exact okD (Fb := F_law_same (phi_law_same n)) T.F_law_same sc_law_same rfl rfl fun cdv A outer s H E hr => have hu := hu_of hr; ⟨_, _,
      (dss_cons (ds_if (DW.dc (dw_or (dc_val (dt_isi (ty := "list") (by rfl) T.m_isinstance (dv_v 1) (by rfl) T.m_list (by decide +kernel))) (dw_or1 (dc_val (dt_isi (ty := "tuple") (by rfl) T.m_isinstance (dv_v 1) (by rfl) T.m_tuple (by decide +kernel)))))) (dss_cons (ds_if (dc_ne hr.units (DT.dv (dt_isi (ty := "list") (by rfl) T.m_isinstance (dv_v 1) (by rfl) T.m_list (by decide +kernel))) (DT.dv (dt_isi (ty := "list") (by rfl) T.m_isinstance (dv_v 0) (by rfl) T.m_list (by decide +kernel)))) (dss_one (ds_ret dt_bl)) dss_nil)
      (dss_cons (ds_if (dc_ne hr.units (DT.dv (dt_isi (ty := "tuple") (by rfl) T.m_isinstance (dv_v 1) (by rfl) T.m_tuple (by decide +kernel))) (DT.dv (dt_isi (ty := "tuple") (by rfl) T.m_isinstance (dv_v 0) (by rfl) T.m_tuple (by decide +kernel)))) (dss_one (ds_ret dt_bl)) dss_nil)
      (dss_cons (ds_if (dc_ne hr.units (DT.dv (dt_len (by rfl) T.m_len (dv_v 0))) (DT.dv (dt_len (by rfl) T.m_len (dv_v 1)))) (dss_one (ds_ret dt_bl)) dss_nil)
      (dss_cons (ds_for PassesOwn.never rfl (di_zip (by rfl) T.m_zip (da_cons (dt_v 0) (da_cons (dt_v 1) da_nil))) (dg_tup rfl (dgs_cons (dg_name (i := 2) nd rfl (by first | exact Or.inl rfl | exact Or.inr rfl)) (dgs_cons (dg_name (i := 3) nd rfl (by first | exact Or.inl rfl | exact Or.inr rfl)) dgs_nil))) (dss_one (ds_if (dc_not (dc_val (dt_call (n := 2) (φ := phi_law_same n) (by cases n with | zero => exact fun _ _ h => nomatch h | succ n => exact fun _ _ h => runF_len h) IH hr (by rfl) T.g_law_same T.F_law_same.kp T.b_law_same (da_cons (dt_v 2) (da_cons (dt_v 3) da_nil))))) (dss_one (ds_ret dt_bl)) dss_nil)))
      (dss_one (ds_ret dt_bl)))))) dss_nil)
      (dss_cons (ds_if (dc_is (dv_v 1) (DT.dv dt_non)) (dss_one (ds_ret (dt_is (dv_v 0) (DT.dv dt_non)))) dss_nil)
      (dss_cons (ds_if (dc_val (dt_isi (ty := "str") (by rfl) T.m_isinstance (dv_v 1) (by rfl) T.m_str (by decide +kernel))) (dss_one (ds_ret (dt_and (dt_isi (ty := "str") (by rfl) T.m_isinstance (dv_v 0) (by rfl) T.m_str (by decide +kernel)) (dt_one (dt_eq hr.units (dv_v 0) (dv_v 1)))))) dss_nil)
      (dss_one (ds_ret (dt_and (dt_isi (ty := "int") (by rfl) T.m_isinstance (dv_v 0) (by rfl) T.m_int (by decide +kernel)) (dt_and (dt_not (dt_isi (ty := "bool") (by rfl) T.m_isinstance (dv_v 0) (by rfl) T.m_bool (by decide +kernel))) (dt_one (dt_eq hr.units (dv_v 0) (dv_v 1))))))))))⟩
theorem ok_law (T : Txt K mg f_law_draw f_law_next f_law_keywords f_law_name f_law_coins f_law_rule f_law_order f_law_orders f_law_shared_names f_law_guards f_law_pool f_law_deal f_law_income f_law_loss f_law_days f_law_more f_added_losses f_law_due f_law_same f_law d_law_draw d_law_next d_law_keywords d_law_name d_law_coins d_law_rule d_law_order d_law_orders d_law_shared_names d_law_guards d_law_pool d_law_deal d_law_income d_law_loss d_law_days d_law_more d_added_losses d_law_due d_law_same d_law) : FnOk P w K mg base CX0 10 f_law d_law ["_law_script"] (spD 1 phi_law K) := by
  have nd : N_law.Nodup := sc_law.nd
  exact okD (Fb := F_law) T.F_law sc_law rfl rfl fun cdv A outer s H E hr => have hu := hu_of hr; ⟨_, _,
    (dss_cons (ds_set (i := 1) nd rfl (by first | exact Or.inl rfl | exact Or.inr rfl) (dt_fz (dt_call (n := 1) (φ := phi_law_deal) (fun _ _ h => runF_len h) (ok_law_deal T) (hr.mono (by decide)) (by rfl) T.g_law_deal T.F_law_deal.kp T.b_law_deal (da_cons (dt_v 0) da_nil))))
      (dss_cons (ds_set (i := 2) nd rfl (by first | exact Or.inl rfl | exact Or.inr rfl) (dt_fz (dt_call (n := 2) (φ := phi_law_days) (fun _ _ h => runF_len h) (ok_law_days T) (hr.mono (by decide)) (by rfl) T.g_law_days T.F_law_days.kp T.b_law_days (da_cons (dt_v 0) (da_cons (dt_v 1) da_nil)))))
      (dss_cons (ds_set (i := 3) nd rfl (by first | exact Or.inl rfl | exact Or.inr rfl) (dt_fz (dt_call (n := 3) (φ := phi_law_more) (fun _ _ h => runF_len h) (ok_law_more T) (hr.mono (by decide)) (by rfl) T.g_law_more T.F_law_more.kp T.b_law_more (da_cons (dt_v 0) (da_cons (dt_v 1) (da_cons (dt_v 2) da_nil))))))
      (dss_cons (ds_set (i := 4) nd rfl (by first | exact Or.inl rfl | exact Or.inr rfl) (dt_fz (dt_lst (da_cons (dt_list (by rfl) T.m_list (dv_v 3)) (da_cons (dt_call (n := 2) (φ := phi_law_days) (fun _ _ h => runF_len h) (ok_law_days T) (hr.mono (by decide)) (by rfl) T.g_law_days T.F_law_days.kp T.b_law_days (da_cons (dt_v 0) (da_cons (dt_v 1) da_nil))) da_nil)))))
      (dss_cons (ds_set (i := 5) nd rfl (by first | exact Or.inl rfl | exact Or.inr rfl) (dt_call (n := 3) (φ := phi_added_losses) (fun _ _ h => runF_len h) (ok_added_losses T) (hr.mono (by decide)) (by rfl) T.g_added_losses T.F_added_losses.kp T.b_added_losses (da_cons (dt_v 1) (da_cons (DV.dt (dv_ix (dv_v 4) dt_int)) (da_cons (DV.dt (dv_ix (dv_v 4) dt_int)) da_nil)))))
      (dss_cons (ds_set (i := 6) nd rfl (by first | exact Or.inl rfl | exact Or.inr rfl) (dt_fz (dt_call (n := 3) (φ := phi_law_due) (fun _ _ h => runF_len h) (ok_law_due T) (hr.mono (by decide)) (by rfl) T.g_law_due T.F_law_due.kp T.b_law_due (da_cons (dt_v 1) (da_cons (dt_v 2) (da_cons (dt_v 3) da_nil))))))
      (dss_cons (ds_if (DW.dc (dw_or (dc_not (dc_val (dt_callB (n := 2) (φ := (phi_law_same 8)) (fun _ _ h => runF_len h) (ok_law_same T 8) (hr.mono (by decide)) (by rfl) T.g_law_same T.F_law_same.kp T.b_law_same (dvs_cons (dv_v 5) (dvs_cons (dv_v 6) dvs_nil))))) (dw_or (dc_ne hr.units (dv_ix (dv_v 4) dt_int) (dv_v 3)) (dw_or1 (dc_not (dc_val (dt_call (n := 2) (φ := (phi_law_same 8)) (fun _ _ h => runF_len h) (ok_law_same T 8) (hr.mono (by decide)) (by rfl) T.g_law_same T.F_law_same.kp T.b_law_same (da_cons (dt_v 1) (da_cons (dt_fz (dt_call (n := 1) (φ := phi_law_deal) (fun _ _ h => runF_len h) (ok_law_deal T) (hr.mono (by decide)) (by rfl) T.g_law_deal T.F_law_deal.kp T.b_law_deal (da_cons (dt_v 0) da_nil))) da_nil))))))))) (dss_one (ds_ret dt_bl)) dss_nil)
      (dss_cons (ds_forP (j := 7) 5 PassesOwn.never rfl nd rfl (by first | exact Or.inl rfl | exact Or.inr rfl) (dss_cons (ds_appP (dp_ix (dp_name 7) dt_int) dt_int)
      (dss_one (ds_appP (dp_ix (dp_name 7) dt_int) dt_int))) (by decide) (by decide))
      (dss_fzI 5 (dss_cons (ds_app 5 (dt_fz (dt_sl (dv_v 5) do_none (do_some dt_int))))
      (dss_one (ds_ret (dt_and (dt_call (n := 2) (φ := (phi_law_same 8)) (fun _ _ h => runF_len h) (ok_law_same T 8) (hr.mono (by decide)) (by rfl) T.g_law_same T.F_law_same.kp T.b_law_same (da_cons (DV.dt (dv_ix (dv_v 4) dt_int)) (da_cons (dt_v 2) da_nil))) (dt_one (dt_call (n := 2) (φ := (phi_law_same 8)) (fun _ _ h => runF_len h) (ok_law_same T 8) (hr.mono (by decide)) (by rfl) T.g_law_same T.F_law_same.kp T.b_law_same (da_cons (dt_fz (dt_call (n := 3) (φ := phi_added_losses) (fun _ _ h => runF_len h) (ok_added_losses T) (hr.mono (by decide)) (by rfl) T.g_added_losses T.F_added_losses.kp T.b_added_losses (da_cons (dt_v 1) (da_cons (DV.dt (dv_ix (dv_v 4) dt_int)) (da_cons (DV.dt (dv_ix (dv_v 4) dt_int)) da_nil))))) (da_cons (dt_v 6) da_nil)))))))))))))))))⟩
end
theorem all_mk {l : PySem.W.OpenLaw} {w : World} {K : PySem.W.Frag} {h : Heap} {mg : Str → Option Value} {fa : Addr} {f_law_draw f_law_next f_law_keywords f_law_name f_law_coins f_law_rule f_law_order f_law_orders f_law_shared_names f_law_guards f_law_pool f_law_deal f_law_income f_law_loss f_law_days f_law_more f_added_losses f_law_due f_law_same f_law : Addr} (X : K.In h) (G : h.Ns mainGlobals mg) (hfa : mg "law" = some (.ref fa))
    {od1 an1 od2 an2 od3 an3 od4 an4 od5 an5 od6 an6 od7 an7 od8 an8 od9 an9 od10 an10 od11 an11 od12 an12 od13 an13 od14 an14 od15 an15 od16 an16 od17 an17 od18 an18 od19 an19 od20 an20 : Option Addr} {sl1 sl2 sl3 sl4 sl5 sl6 sl7 sl8 sl9 sl10 sl11 sl12 sl13 sl14 sl15 sl16 sl17 sl18 sl19 sl20 : Array (Option Value)} {oc1 kV1 dc1 pm1 cd1 ct1 oc2 kV2 dc2 pm2 cd2 ct2 oc3 kV3 dc3 pm3 cd3 ct3 oc4 kV4 dc4 pm4 cd4 ct4 oc5 kV5 dc5 pm5 cd5 ct5 oc6 kV6 dc6 pm6 cd6 ct6 oc7 kV7 dc7 pm7 cd7 ct7 oc8 kV8 dc8 pm8 cd8 ct8 oc9 kV9 dc9 pm9 cd9 ct9 oc10 kV10 dc10 pm10 cd10 ct10 oc11 kV11 dc11 pm11 cd11 ct11 oc12 kV12 dc12 pm12 cd12 ct12 oc13 kV13 dc13 pm13 cd13 ct13 oc14 kV14 dc14 pm14 cd14 ct14 oc15 kV15 dc15 pm15 cd15 ct15 oc16 kV16 dc16 pm16 cd16 ct16 oc17 kV17 dc17 pm17 cd17 ct17 oc18 kV18 dc18 pm18 cd18 ct18 oc19 kV19 dc19 pm19 cd19 ct19 oc20 kV20 dc20 pm20 cd20 ct20 : Value}
    (a1 : PySem.W.nsIn K mainGlobals "_law_draw" = some (some (.ref f_law_draw))) (l1 : K.lookup f_law_draw = some ⟨oc1, od1, .func (PySem.W.fnOf "_law_draw" "_law_draw" (defArgs s_law_draw) (defBody s_law_draw) (defScope s_law_draw) .none kV1 dc1 pm1 an1 cd1 ct1), sl1⟩) (c1 : PySem.W.codeIn K cd1 "_law_draw" = true) (k1 : PySem.W.keepIn K (.ref f_law_draw) = true)
    (a2 : PySem.W.nsIn K mainGlobals "_law_next" = some (some (.ref f_law_next))) (l2 : K.lookup f_law_next = some ⟨oc2, od2, .func (PySem.W.fnOf "_law_next" "_law_next" (defArgs s_law_next) (defBody s_law_next) (defScope s_law_next) .none kV2 dc2 pm2 an2 cd2 ct2), sl2⟩) (c2 : PySem.W.codeIn K cd2 "_law_next" = true) (k2 : PySem.W.keepIn K (.ref f_law_next) = true)
    (a3 : PySem.W.nsIn K mainGlobals "_law_keywords" = some (some (.ref f_law_keywords))) (l3 : K.lookup f_law_keywords = some ⟨oc3, od3, .func (PySem.W.fnOf "_law_keywords" "_law_keywords" (defArgs s_law_keywords) (defBody s_law_keywords) (defScope s_law_keywords) .none kV3 dc3 pm3 an3 cd3 ct3), sl3⟩) (c3 : PySem.W.codeIn K cd3 "_law_keywords" = true) (k3 : PySem.W.keepIn K (.ref f_law_keywords) = true)
    (a4 : PySem.W.nsIn K mainGlobals "_law_name" = some (some (.ref f_law_name))) (l4 : K.lookup f_law_name = some ⟨oc4, od4, .func (PySem.W.fnOf "_law_name" "_law_name" (defArgs s_law_name) (defBody s_law_name) (defScope s_law_name) .none kV4 dc4 pm4 an4 cd4 ct4), sl4⟩) (c4 : PySem.W.codeIn K cd4 "_law_name" = true) (k4 : PySem.W.keepIn K (.ref f_law_name) = true)
    (a5 : PySem.W.nsIn K mainGlobals "_law_coins" = some (some (.ref f_law_coins))) (l5 : K.lookup f_law_coins = some ⟨oc5, od5, .func (PySem.W.fnOf "_law_coins" "_law_coins" (defArgs s_law_coins) (defBody s_law_coins) (defScope s_law_coins) .none kV5 dc5 pm5 an5 cd5 ct5), sl5⟩) (c5 : PySem.W.codeIn K cd5 "_law_coins" = true) (k5 : PySem.W.keepIn K (.ref f_law_coins) = true)
    (a6 : PySem.W.nsIn K mainGlobals "_law_rule" = some (some (.ref f_law_rule))) (l6 : K.lookup f_law_rule = some ⟨oc6, od6, .func (PySem.W.fnOf "_law_rule" "_law_rule" (defArgs s_law_rule) (defBody s_law_rule) (defScope s_law_rule) .none kV6 dc6 pm6 an6 cd6 ct6), sl6⟩) (c6 : PySem.W.codeIn K cd6 "_law_rule" = true) (k6 : PySem.W.keepIn K (.ref f_law_rule) = true)
    (a7 : PySem.W.nsIn K mainGlobals "_law_order" = some (some (.ref f_law_order))) (l7 : K.lookup f_law_order = some ⟨oc7, od7, .func (PySem.W.fnOf "_law_order" "_law_order" (defArgs s_law_order) (defBody s_law_order) (defScope s_law_order) .none kV7 dc7 pm7 an7 cd7 ct7), sl7⟩) (c7 : PySem.W.codeIn K cd7 "_law_order" = true) (k7 : PySem.W.keepIn K (.ref f_law_order) = true)
    (a8 : PySem.W.nsIn K mainGlobals "_law_orders" = some (some (.ref f_law_orders))) (l8 : K.lookup f_law_orders = some ⟨oc8, od8, .func (PySem.W.fnOf "_law_orders" "_law_orders" (defArgs s_law_orders) (defBody s_law_orders) (defScope s_law_orders) .none kV8 dc8 pm8 an8 cd8 ct8), sl8⟩) (c8 : PySem.W.codeIn K cd8 "_law_orders" = true) (k8 : PySem.W.keepIn K (.ref f_law_orders) = true)
    (a9 : PySem.W.nsIn K mainGlobals "_law_shared_names" = some (some (.ref f_law_shared_names))) (l9 : K.lookup f_law_shared_names = some ⟨oc9, od9, .func (PySem.W.fnOf "_law_shared_names" "_law_shared_names" (defArgs s_law_shared_names) (defBody s_law_shared_names) (defScope s_law_shared_names) .none kV9 dc9 pm9 an9 cd9 ct9), sl9⟩) (c9 : PySem.W.codeIn K cd9 "_law_shared_names" = true) (k9 : PySem.W.keepIn K (.ref f_law_shared_names) = true)
    (a10 : PySem.W.nsIn K mainGlobals "_law_guards" = some (some (.ref f_law_guards))) (l10 : K.lookup f_law_guards = some ⟨oc10, od10, .func (PySem.W.fnOf "_law_guards" "_law_guards" (defArgs s_law_guards) (defBody s_law_guards) (defScope s_law_guards) .none kV10 dc10 pm10 an10 cd10 ct10), sl10⟩) (c10 : PySem.W.codeIn K cd10 "_law_guards" = true) (k10 : PySem.W.keepIn K (.ref f_law_guards) = true)
    (a11 : PySem.W.nsIn K mainGlobals "_law_pool" = some (some (.ref f_law_pool))) (l11 : K.lookup f_law_pool = some ⟨oc11, od11, .func (PySem.W.fnOf "_law_pool" "_law_pool" (defArgs s_law_pool) (defBody s_law_pool) (defScope s_law_pool) .none kV11 dc11 pm11 an11 cd11 ct11), sl11⟩) (c11 : PySem.W.codeIn K cd11 "_law_pool" = true) (k11 : PySem.W.keepIn K (.ref f_law_pool) = true)
    (a12 : PySem.W.nsIn K mainGlobals "_law_deal" = some (some (.ref f_law_deal))) (l12 : K.lookup f_law_deal = some ⟨oc12, od12, .func (PySem.W.fnOf "_law_deal" "_law_deal" (defArgs s_law_deal) (defBody s_law_deal) (defScope s_law_deal) .none kV12 dc12 pm12 an12 cd12 ct12), sl12⟩) (c12 : PySem.W.codeIn K cd12 "_law_deal" = true) (k12 : PySem.W.keepIn K (.ref f_law_deal) = true)
    (a13 : PySem.W.nsIn K mainGlobals "_law_income" = some (some (.ref f_law_income))) (l13 : K.lookup f_law_income = some ⟨oc13, od13, .func (PySem.W.fnOf "_law_income" "_law_income" (defArgs s_law_income) (defBody s_law_income) (defScope s_law_income) .none kV13 dc13 pm13 an13 cd13 ct13), sl13⟩) (c13 : PySem.W.codeIn K cd13 "_law_income" = true) (k13 : PySem.W.keepIn K (.ref f_law_income) = true)
    (a14 : PySem.W.nsIn K mainGlobals "_law_loss" = some (some (.ref f_law_loss))) (l14 : K.lookup f_law_loss = some ⟨oc14, od14, .func (PySem.W.fnOf "_law_loss" "_law_loss" (defArgs s_law_loss) (defBody s_law_loss) (defScope s_law_loss) .none kV14 dc14 pm14 an14 cd14 ct14), sl14⟩) (c14 : PySem.W.codeIn K cd14 "_law_loss" = true) (k14 : PySem.W.keepIn K (.ref f_law_loss) = true)
    (a15 : PySem.W.nsIn K mainGlobals "_law_days" = some (some (.ref f_law_days))) (l15 : K.lookup f_law_days = some ⟨oc15, od15, .func (PySem.W.fnOf "_law_days" "_law_days" (defArgs s_law_days) (defBody s_law_days) (defScope s_law_days) .none kV15 dc15 pm15 an15 cd15 ct15), sl15⟩) (c15 : PySem.W.codeIn K cd15 "_law_days" = true) (k15 : PySem.W.keepIn K (.ref f_law_days) = true)
    (a16 : PySem.W.nsIn K mainGlobals "_law_more" = some (some (.ref f_law_more))) (l16 : K.lookup f_law_more = some ⟨oc16, od16, .func (PySem.W.fnOf "_law_more" "_law_more" (defArgs s_law_more) (defBody s_law_more) (defScope s_law_more) .none kV16 dc16 pm16 an16 cd16 ct16), sl16⟩) (c16 : PySem.W.codeIn K cd16 "_law_more" = true) (k16 : PySem.W.keepIn K (.ref f_law_more) = true)
    (a17 : PySem.W.nsIn K mainGlobals "added_losses" = some (some (.ref f_added_losses))) (l17 : K.lookup f_added_losses = some ⟨oc17, od17, .func (PySem.W.fnOf "added_losses" "added_losses" (defArgs s_added_losses) (defBody s_added_losses) (defScope s_added_losses) .none kV17 dc17 pm17 an17 cd17 ct17), sl17⟩) (c17 : PySem.W.codeIn K cd17 "added_losses" = true) (k17 : PySem.W.keepIn K (.ref f_added_losses) = true)
    (a18 : PySem.W.nsIn K mainGlobals "_law_due" = some (some (.ref f_law_due))) (l18 : K.lookup f_law_due = some ⟨oc18, od18, .func (PySem.W.fnOf "_law_due" "_law_due" (defArgs s_law_due) (defBody s_law_due) (defScope s_law_due) .none kV18 dc18 pm18 an18 cd18 ct18), sl18⟩) (c18 : PySem.W.codeIn K cd18 "_law_due" = true) (k18 : PySem.W.keepIn K (.ref f_law_due) = true)
    (a19 : PySem.W.nsIn K mainGlobals "_law_same" = some (some (.ref f_law_same))) (l19 : K.lookup f_law_same = some ⟨oc19, od19, .func (PySem.W.fnOf "_law_same" "_law_same" (defArgs s_law_same) (defBody s_law_same) (defScope s_law_same) .none kV19 dc19 pm19 an19 cd19 ct19), sl19⟩) (c19 : PySem.W.codeIn K cd19 "_law_same" = true) (k19 : PySem.W.keepIn K (.ref f_law_same) = true)
    (a20 : PySem.W.nsIn K mainGlobals "law" = some (some (.ref f_law))) (l20 : K.lookup f_law = some ⟨oc20, od20, .func (PySem.W.fnOf "law" "law" (defArgs s_law) (defBody s_law) (defScope s_law) .none kV20 dc20 pm20 an20 cd20 ct20), sl20⟩) (c20 : PySem.W.codeIn K cd20 "law" = true) (k20 : PySem.W.keepIn K (.ref f_law) = true)
    (z1 : PySem.W.nsIn K mainGlobals "enumerate" = some none)
    (z2 : PySem.W.nsIn K mainGlobals "list" = some none)
    (z3 : PySem.W.nsIn K mainGlobals "len" = some none)
    (z4 : PySem.W.nsIn K mainGlobals "range" = some none)
    (z5 : PySem.W.nsIn K mainGlobals "tuple" = some none)
    (z6 : PySem.W.nsIn K mainGlobals "min" = some none)
    (z7 : PySem.W.nsIn K mainGlobals "int" = some none)
    (z8 : PySem.W.nsIn K mainGlobals "isinstance" = some none)
    (z9 : PySem.W.nsIn K mainGlobals "zip" = some none)
    (z10 : PySem.W.nsIn K mainGlobals "str" = some none)
    (z11 : PySem.W.nsIn K mainGlobals "bool" = some none)
    (z12 : PySem.W.nsIn K mainGlobals "sum" = some none)
    : ∃ fd : FuncData, (∀ (s : Shared) (v : Value), BindsTo s fd ⟨[v], []⟩ [("_law_script", v)]) ∧ ∀ (K' : PySem.W.Frag) (base : Heap), Less K K' → FnOk l.prog w K' mg base CX0 10 fa fd ["_law_script"] (spD 1 phi_law K') := by
  have e := hfa.symm.trans (PySem.W.mg_of X G a20)
  cases e
  have E1 := fun_mk (st := s_law_draw) l1 c1 k1
  have E2 := fun_mk (st := s_law_next) l2 c2 k2
  have E3 := fun_mk (st := s_law_keywords) l3 c3 k3
  have E4 := fun_mk (st := s_law_name) l4 c4 k4
  have E5 := fun_mk (st := s_law_coins) l5 c5 k5
  have E6 := fun_mk (st := s_law_rule) l6 c6 k6
  have E7 := fun_mk (st := s_law_order) l7 c7 k7
  have E8 := fun_mk (st := s_law_orders) l8 c8 k8
  have E9 := fun_mk (st := s_law_shared_names) l9 c9 k9
  have E10 := fun_mk (st := s_law_guards) l10 c10 k10
  have E11 := fun_mk (st := s_law_pool) l11 c11 k11
  have E12 := fun_mk (st := s_law_deal) l12 c12 k12
  have E13 := fun_mk (st := s_law_income) l13 c13 k13
  have E14 := fun_mk (st := s_law_loss) l14 c14 k14
  have E15 := fun_mk (st := s_law_days) l15 c15 k15
  have E16 := fun_mk (st := s_law_more) l16 c16 k16
  have E17 := fun_mk (st := s_added_losses) l17 c17 k17
  have E18 := fun_mk (st := s_law_due) l18 c18 k18
  have E19 := fun_mk (st := s_law_same) l19 c19 k19
  have E20 := fun_mk (st := s_law) l20 c20 k20
  refine ⟨PySem.W.fnOf "law" "law" (defArgs s_law) (defBody s_law) (defScope s_law) .none kV20 dc20 pm20 an20 cd20 ct20, fun s v => .of_eq rfl, fun K' base Ls => ?_⟩
  have F1 := Ls.fun E1
  have F2 := Ls.fun E2
  have F3 := Ls.fun E3
  have F4 := Ls.fun E4
  have F5 := Ls.fun E5
  have F6 := Ls.fun E6
  have F7 := Ls.fun E7
  have F8 := Ls.fun E8
  have F9 := Ls.fun E9
  have F10 := Ls.fun E10
  have F11 := Ls.fun E11
  have F12 := Ls.fun E12
  have F13 := Ls.fun E13
  have F14 := Ls.fun E14
  have F15 := Ls.fun E15
  have F16 := Ls.fun E16
  have F17 := Ls.fun E17
  have F18 := Ls.fun E18
  have F19 := Ls.fun E19
  have F20 := Ls.fun E20
  have T : Txt K' mg _ _ _ _ _ _ _ _ _ _ _ _ _ _ _ _ _ _ _ _ _ _ _ _ _ _ _ _ _ _ _ _ _ _ _ _ _ _ _ _ := ⟨F1, F1.binds (ps := ["_law_script", "_law_k"]) (fun _ _ _ _ _ _ us hl => match us, hl with | [_, _], _ => rfl), PySem.W.mg_of X G a1,
    F2, F2.binds (ps := ["_law_script", "_law_at"]) (fun _ _ _ _ _ _ us hl => match us, hl with | [_, _], _ => rfl), PySem.W.mg_of X G a2,
    F3, F3.binds (ps := []) (fun _ _ _ _ _ _ us hl => match us, hl with | [], _ => rfl), PySem.W.mg_of X G a3,
    F4, F4.binds (ps := ["_law_seed", "_law_k"]) (fun _ _ _ _ _ _ us hl => match us, hl with | [_, _], _ => rfl), PySem.W.mg_of X G a4,
    F5, F5.binds (ps := ["_law_n"]) (fun _ _ _ _ _ _ us hl => match us, hl with | [_], _ => rfl), PySem.W.mg_of X G a5,
    F6, F6.binds (ps := ["_law_n", "_law_claims", "_law_pots", "_law_others"]) (fun _ _ _ _ _ _ us hl => match us, hl with | [_, _, _, _], _ => rfl), PySem.W.mg_of X G a6,
    F7, F7.binds (ps := ["_law_script", "_law_at", "_law_name_here", "_law_claims", "_law_pots", "_law_others"]) (fun _ _ _ _ _ _ us hl => match us, hl with | [_, _, _, _, _, _], _ => rfl), PySem.W.mg_of X G a7,
    F8, F8.binds (ps := ["_law_script", "_law_at", "_law_seed", "_law_claims", "_law_pots", "_law_others", "_law_most"]) (fun _ _ _ _ _ _ us hl => match us, hl with | [_, _, _, _, _, _, _], _ => rfl), PySem.W.mg_of X G a8,
    F9, F9.binds (ps := ["_law_orders_here"]) (fun _ _ _ _ _ _ us hl => match us, hl with | [_], _ => rfl), PySem.W.mg_of X G a9,
    F10, F10.binds (ps := ["_law_script", "_law_at", "_law_claims", "_law_pots", "_law_orders_here"]) (fun _ _ _ _ _ _ us hl => match us, hl with | [_, _, _, _, _], _ => rfl), PySem.W.mg_of X G a10,
    F11, F11.binds (ps := ["_law_script", "_law_at", "_law_seed", "_law_k", "_law_others", "_law_most"]) (fun _ _ _ _ _ _ us hl => match us, hl with | [_, _, _, _, _, _], _ => rfl), PySem.W.mg_of X G a11,
    F12, F12.binds (ps := ["_law_script"]) (fun _ _ _ _ _ _ us hl => match us, hl with | [_], _ => rfl), PySem.W.mg_of X G a12,
    F13, F13.binds (ps := ["_law_n"]) (fun _ _ _ _ _ _ us hl => match us, hl with | [_], _ => rfl), PySem.W.mg_of X G a13,
    F14, F14.binds (ps := ["_law_n"]) (fun _ _ _ _ _ _ us hl => match us, hl with | [_], _ => rfl), PySem.W.mg_of X G a14,
    F15, F15.binds (ps := ["_law_script", "_law_deal_here"]) (fun _ _ _ _ _ _ us hl => match us, hl with | [_, _], _ => rfl), PySem.W.mg_of X G a15,
    F16, F16.binds (ps := ["_law_script", "_law_deal_here", "_law_days_here"]) (fun _ _ _ _ _ _ us hl => match us, hl with | [_, _, _], _ => rfl), PySem.W.mg_of X G a16,
    F17, F17.binds (ps := ["deal", "days", "rows"]) (fun _ _ _ _ _ _ us hl => match us, hl with | [_, _, _], _ => rfl), PySem.W.mg_of X G a17,
    F18, F18.binds (ps := ["_law_deal_here", "_law_days_here", "_law_rows"]) (fun _ _ _ _ _ _ us hl => match us, hl with | [_, _, _], _ => rfl), PySem.W.mg_of X G a18,
    F19, F19.binds (ps := ["_law_found", "_law_due_here"]) (fun _ _ _ _ _ _ us hl => match us, hl with | [_, _], _ => rfl), PySem.W.mg_of X G a19,
    F20, F20.binds (ps := ["_law_script"]) (fun _ _ _ _ _ _ us hl => match us, hl with | [_], _ => rfl), PySem.W.mg_of X G a20,
    PySem.W.mg_none_of X G z1,
    PySem.W.mg_none_of X G z2,
    PySem.W.mg_none_of X G z3,
    PySem.W.mg_none_of X G z4,
    PySem.W.mg_none_of X G z5,
    PySem.W.mg_none_of X G z6,
    PySem.W.mg_none_of X G z7,
    PySem.W.mg_none_of X G z8,
    PySem.W.mg_none_of X G z9,
    PySem.W.mg_none_of X G z10,
    PySem.W.mg_none_of X G z11,
    PySem.W.mg_none_of X G z12⟩
  exact ok_law T
end K53
set_option Elab.async false
set_option linter.all false
set_option maxRecDepth 100000
set_option maxHeartbeats 4000000
namespace LW
open PySem PySem.Spec PyProof.Rows L2 DL
def B_all_among_1 : SF :=
  (sIf (cT (eCmp notInQ (eB 2) (eB 1))) (sRet (eC (.bl false))) sNx)
def F_all_among : SF :=
  (sSeq (sFor (iSg (eV 0)) (gNm 2) B_all_among_1)
  (sRet (eC (.bl true))))
def phi_all_among : List D → Option T := runF 3 2 F_all_among
def F_is_keyword : SF :=
  (sSeq (sSet 1 (eC (.str (PySem.Str.ofString "pool claim pot eat order part pay share repay fill lend back rest look guard debt on late early quit"))))
  (sRet (eCmp inQ (eB 0) (eSplit (eV 1) (eC (.str (PySem.Str.ofString " ")))))))
def phi_is_keyword : List D → Option T := runF 2 1 F_is_keyword
def F_is_name : SF :=
  (sSeq (sIf (cT (eCall phi_is_keyword (aC (eV 0) aN))) (sRet (eC (.bl false))) sNx)
  (sRet (eAnd (eChain bLe bLe (eC (.int 1)) (eB1 gLen (eB 0)) (eC (.int 8))) (eCall phi_all_among (aC (eV 0) (aC (eC (.str (PySem.Str.ofString "abcdefghijklmnopqrstuvwxyz"))) aN))))))
def phi_is_name : List D → Option T := runF 1 1 F_is_name
def F_number_in : SF :=
  (sSeq (sIf (cOr (cNot (cT (eChain bLe bLe (eC (.int 1)) (eB1 gLen (eB 0)) (eC (.int 13))))) (cNot (cT (eCall phi_all_among (aC (eV 0) (aC (eC (.str (PySem.Str.ofString "0123456789"))) aN)))))) (sRet (eC .non)) sNx)
  (sSeq (sIf (cAnd (cT (eM1 gStarts (eV 0) (eC (.str (PySem.Str.ofString "0"))))) (cT (eCmp neQ (eB 0) (eC (.str (PySem.Str.ofString "0")))))) (sRet (eC .non)) sNx)
  (sRet (eB1 gInt (eB 0)))))
def phi_number_in : List D → Option T := runF 1 1 F_number_in
def F_number_up_to : SF :=
  (sSeq (sSet 3 (eCall phi_number_in (aC (eV 0) aN)))
  (sSeq (sIf (cOr (cT (eCmp isN (eB 3) (eC .non))) (cNot (cT (eChain bLe bLe (eC (.int 1)) (eV 3) (eV 1))))) sNo sNx)
  (sRet (eM 3))))
def phi_number_up_to : List D → Option T := runF 4 3 F_number_up_to
def F_name_at : SF :=
  (sSeq (sIf (cNot (cT (eCall phi_is_name (aC (eV 0) aN)))) sNo sNx)
  (sRet (eM 0)))
def phi_name_at : List D → Option T := runF 2 2 F_name_at
def F_words_wanted : SF :=
  (sSeq (sIf (cOr (cT (eCmp eqQ (eB 0) (eC (.str (PySem.Str.ofString "debt"))))) (cOr (cT (eCmp eqQ (eB 0) (eC (.str (PySem.Str.ofString "on"))))) (cOr (cT (eCmp eqQ (eB 0) (eC (.str (PySem.Str.ofString "early"))))) (cT (eCmp eqQ (eB 0) (eC (.str (PySem.Str.ofString "quit")))))))) (sRet (eC (.int 3))) sNx)
  (sSeq (sIf (cT (eCmp eqQ (eB 0) (eC (.str (PySem.Str.ofString "late"))))) (sRet (eC (.int 4))) sNx)
  (sRet (eC (.int 0)))))
def phi_words_wanted : List D → Option T := runF 1 1 F_words_wanted
def F_debt_row_of : SF :=
  (sSeq (sSet 2 (eComp [3] (iL (eFz (eSplit (eV 0) (eC (.str (PySem.Str.ofString " ")))))) (gNm 3) (cT (eCmp neQ (eB 3) (eC (.str (PySem.Str.ofString ""))))) (eV 3)))
  (sSeq (sIf (cT (eCmp eqQ (eB1 gLen (eB 2)) (eC (.int 0)))) (sRet (eC .non)) sNx)
  (sSeq (sIf (cT (eCmp neQ (eB1 gLen (eB 2)) (eCall phi_words_wanted (aC (eW (eIx (eB 2) (eC (.int 0)))) aN)))) sNo sNx)
  (sSeq (sIf (cT (eCmp eqQ (eIx (eB 2) (eC (.int 0))) (eC (.str (PySem.Str.ofString "debt"))))) (sRet (eL (aC (eC (.str (PySem.Str.ofString "debt"))) (aC (eCall phi_name_at (aC (eW (eIx (eB 2) (eC (.int 1)))) (aC (eV 1) aN))) (aC (eCall phi_name_at (aC (eW (eIx (eB 2) (eC (.int 2)))) (aC (eV 1) aN))) aN))))) sNx)
  (sSeq (sIf (cT (eCmp eqQ (eIx (eB 2) (eC (.int 0))) (eC (.str (PySem.Str.ofString "on"))))) (sSeq (sSet 4 (eCall phi_number_up_to (aC (eW (eIx (eB 2) (eC (.int 1)))) (aC (eC (.int 60)) (aC (eV 1) aN)))))
  (sRet (eL (aC (eC (.str (PySem.Str.ofString "on"))) (aC (eM 4) (aC (eCall phi_number_up_to (aC (eW (eIx (eB 2) (eC (.int 2)))) (aC (eC (.int 1000000000000)) (aC (eV 1) aN)))) aN)))))) sNx)
  (sSeq (sSet 5 (eL (aC (eW (eIx (eB 2) (eC (.int 0)))) (aC (eCall phi_name_at (aC (eW (eIx (eB 2) (eC (.int 1)))) (aC (eV 1) aN))) (aC (eCall phi_number_up_to (aC (eW (eIx (eB 2) (eC (.int 2)))) (aC (eC (.int 60)) (aC (eV 1) aN)))) aN)))))
  (sSeq (sIf (cT (eCmp eqQ (eIx (eB 2) (eC (.int 0))) (eC (.str (PySem.Str.ofString "late"))))) (sApp 5 (eCall phi_number_up_to (aC (eW (eIx (eB 2) (eC (.int 3)))) (aC (eC (.int 30)) (aC (eV 1) aN))))) sNx)
  (sRet (eM 5)))))))))
def phi_debt_row_of : List D → Option T := runF 6 2 F_debt_row_of
def F_law_mixed : SF :=
  (sSeq (sSet 2 (eOp gMod (eOp gAdd (eOp gMul (eOp gMod (eV 0) (eC (.int 2147483647))) (eC (.int 48271))) (eOp gMul (eOp gAdd (eOp gAdd (eOp gMul (eV 1) (eV 1)) (eOp gMul (eC (.int 3)) (eV 1))) (eC (.int 7))) (eC (.int 69621)))) (eC (.int 2147483647))))
  (sRet (eOp gMod (eOp gMul (eV 2) (eV 2)) (eC (.int 2147483647)))))
def phi_law_mixed : List D → Option T := runF 3 2 F_law_mixed
def B_law_names_1 : SF :=
  (sSeq (sSet 9 (eComp [10] (iR1 (aC (eV 6) aN)) (gNm 10) cYes (eV 3)))
  (sSeq (sPut 9 (eV 7) (eW (eIx (eB 4) (eOp gMod (eOp gAdd (eOp gDiv (eV 2) (eC (.int 4200))) (eOp gMul (eC (.int 3)) (eV 5))) (eC (.int 20))))))
  (sSeq (sPut 9 (eOp gMod (eOp gAdd (eV 7) (eC (.int 1))) (eV 6)) (eW (eIx (eB 4) (eOp gMod (eOp gAdd (eOp gDiv (eV 2) (eC (.int 84000))) (eOp gDiv (eV 5) (eC (.int 20)))) (eC (.int 20))))))
  (sApp 8 (eJoin (eC (.str (PySem.Str.ofString ""))) (eB 9))))))
def F_law_names : SF :=
  (sSeq (sSet 2 (eCall phi_law_mixed (aC (eV 0) (aC (eC (.int 3)) aN))))
  (sSeq (sSet 3 (eW (eIx (eC (.str (PySem.Str.ofString "abcdefghijklmnpqrstuvwxyz"))) (eOp gMod (eV 2) (eC (.int 25))))))
  (sSeq (sSet 4 (eC (.str (PySem.Str.ofString "bcdfghjklmnpqrstvwxz"))))
  (sSeq (sIf (cAnd (cT (eCmp eqQ (eOp gMod (eOp gDiv (eV 2) (eC (.int 25))) (eC (.int 3))) (eC (.int 0)))) (cT (eCmp cLt (eB 1) (eC (.int 9))))) (sRet (eComp [5] (iR1 (aC (eV 1) aN)) (gNm 5) cYes (eOp gMulA (eV 3) (eOp gSub (eV 1) (eV 5))))) sNx)
  (sSeq (sSet 6 (eOp gAdd (eC (.int 2)) (eOp gMod (eOp gDiv (eV 2) (eC (.int 75))) (eC (.int 7)))))
  (sSeq (sSet 7 (eOp gMod (eOp gDiv (eV 2) (eC (.int 525))) (eV 6)))
  (sSeq (sSet 8 (eL aN))
  (sSeq (sFor (iR1 (aC (eV 1) aN)) (gNm 5) B_law_names_1)
  (sRet (eM 8))))))))))
def phi_law_names : List D → Option T := runF 11 2 F_law_names
def F_law_coins : SF :=
  (sSeq (sIf (cT (eCmp eqQ (eOp gMod (eV 1) (eC (.int 5))) (eC (.int 0)))) (sRet (eC (.int 1))) sNx)
  (sSeq (sIf (cT (eCmp eqQ (eOp gMod (eV 1) (eC (.int 5))) (eC (.int 1)))) (sRet (eM 2)) sNx)
  (sSeq (sIf (cT (eCmp eqQ (eOp gMod (eV 1) (eC (.int 5))) (eC (.int 2)))) (sRet (eOp gAdd (eC (.int 1)) (eOp gMod (eV 0) (eC (.int 7))))) sNx)
  (sSeq (sIf (cT (eCmp eqQ (eOp gMod (eV 1) (eC (.int 5))) (eC (.int 3)))) (sRet (eOp gAdd (eC (.int 1)) (eOp gMod (eV 0) (eV 2)))) sNx)
  (sRet (eOp gAdd (eC (.int 1)) (eOp gMod (eOp gMul (eOp gMul (eOp gAdd (eOp gMod (eV 0) (eV 2)) (eC (.int 1))) (eOp gAdd (eV 1) (eC (.int 48271)))) (eC (.int 99999999999999997))) (eV 2))))))))
def phi_law_coins : List D → Option T := runF 3 3 F_law_coins
def B_law_spaced_1 : SF :=
  (sSeq (sIf (cT (eCmp cGt (eB 3) (eC (.int 0)))) (sSet 2 (eOp gAdd (eV 2) (eOp gMulA (eC (.str (PySem.Str.ofString " "))) (eOp gAdd (eC (.int 1)) (eOp gMod (eOp gDiv (eV 1) (eOp gAdd (eC (.int 3)) (eV 3))) (eC (.int 3))))))) sNx)
  (sSet 2 (eOp gAdd (eV 2) (eV 4))))
def F_law_spaced : SF :=
  (sSeq (sSet 2 (eOp gMulA (eC (.str (PySem.Str.ofString " "))) (eOp gMod (eV 1) (eC (.int 3)))))
  (sSeq (sFor (iEn (aC (eV 0) aN)) (gTp 2 (gAnd (gNm 3) (gAnd (gNm 4) gEnd))) B_law_spaced_1)
  (sRet (eOp gAdd (eV 2) (eOp gMulA (eC (.str (PySem.Str.ofString " "))) (eOp gMod (eOp gDiv (eV 1) (eC (.int 7))) (eC (.int 3))))))))
def phi_law_spaced : List D → Option T := runF 5 2 F_law_spaced
def B_law_alike_1 (φ : List D → Option T) : SF :=
  (sIf (cNot (cT (eCall φ (aC (eW (eIx (eB 0) (eV 2))) (aC (eW (eIx (eB 1) (eV 2))) aN))))) (sRet (eC (.bl false))) sNx)
def F_law_alike (φ : List D → Option T) : SF :=
  (sSeq (sIf (cT (eCmp isN (eB 1) (eC .non))) (sRet (eCmp isN (eB 0) (eC .non))) sNx)
  (sSeq (sIf (cT (eIsi "bool" (eB 1))) (sRet (eAnd (eIsi "bool" (eB 0)) (eCmp eqQ (eB 0) (eB 1)))) sNx)
  (sSeq (sIf (cT (eIsi "int" (eB 1))) (sRet (eAnd (eIsi "int" (eB 0)) (eAnd (eNot (eIsi "bool" (eB 0))) (eCmp eqQ (eB 0) (eB 1))))) sNx)
  (sSeq (sIf (cT (eIsi "str" (eB 1))) (sRet (eAnd (eIsi "str" (eB 0)) (eCmp eqQ (eB 0) (eB 1)))) sNx)
  (sSeq (sIf (cAnd (cT (eIsi "tuple" (eB 1))) (cNot (cT (eIsi "tuple" (eB 0))))) (sRet (eC (.bl false))) sNx)
  (sSeq (sIf (cAnd (cT (eIsi "list" (eB 1))) (cNot (cT (eIsi "list" (eB 0))))) (sRet (eC (.bl false))) sNx)
  (sSeq (sIf (cT (eCmp neQ (eB1 gLen (eB 0)) (eB1 gLen (eB 1)))) (sRet (eC (.bl false))) sNx)
  (sSeq (sFor (iR1 (aC (eB1 gLen (eB 1)) aN)) (gNm 2) (B_law_alike_1 φ))
  (sRet (eC (.bl true)))))))))))
def phi_law_alike : Nat → List D → Option T
  | 0 => fun _ => none
  | n + 1 => runF 3 2 (F_law_alike (phi_law_alike n))
end LW
set_option Elab.async false
set_option linter.all false
set_option maxRecDepth 100000
set_option maxHeartbeats 2000000
namespace LW
open PySem PySem.Spec PyProof.Rows L2 DL
def ks : List Str := Txt.split (sg (cod "pool claim pot eat order part pay share repay fill lend back rest look guard debt on late early quit")) (sg (cod " "))
def isName (w : List Nat) : Bool := !decide (sg w ∈ ks) && (decide (1 ≤ w.length) && decide (w.length ≤ 8) && w.all fun c => decide (c ∈ cod "abcdefghijklmnopqrstuvwxyz"))
def dgt (w : List Nat) : Bool := w.all fun c => decide (c ∈ cod "0123456789")
def isNum (w : List Nat) : Bool := decide (1 ≤ w.length) && decide (w.length ≤ 13) && dgt w && !(decide (w.head? = some 48) && !decide (w = [48]))
def val (w : List Nat) : Nat := PySem.NumText.digitsVal w
def toks (l : List Nat) : List (List Nat) := (TL.spl [32] 0 [] l).filter fun w => !decide (w = [])
end LW
set_option Elab.async false
set_option linter.all false
set_option maxRecDepth 100000
set_option maxHeartbeats 2000000
namespace LW
open PySem PySem.Spec PyProof.Rows L2 DL
abbrev wD (w : List Nat) : D := .str (sg w)
mutual
def aOk : Nat → D → Bool
  | _, .non => true
  | _, .bl _ => true
  | _, .int _ => true
  | _, .str _ => true
  | 0, .lst _ => false
  | n + 1, .lst ds => decide (ds.length ≤ 1000000) && aOks n ds
  | 0, .tup _ => false
  | n + 1, .tup ds => decide (ds.length ≤ 1000000) && aOks n ds
  | _, .dic _ => false
  | _, .dit _ => false
  | _, .obj _ _ => false
  | _, .al _ => false
def aOks : Nat → List D → Bool
  | _, [] => true
  | n, d :: ds => aOk n d && aOks n ds
end
theorem aOks_all {n : Nat} : ∀ {ds : List D}, aOks n ds = true ↔ ∀ d ∈ ds, aOk n d = true
  | [] => by unfold aOks; simp
  | d :: ds => by unfold aOks; simp [aOks_all (ds := ds)]
def mixed (c k : Int) : Int := (c % 2147483647 * 48271 + (k * k + 3 * k + 7) * 69621) % 2147483647 * ((c % 2147483647 * 48271 + (k * k + 3 * k + 7) * 69621) % 2147483647) % 2147483647
theorem mixed_ok (c k : Int) (hk : -18446744073709551616 < k ∧ k < 18446744073709551616) : phi_law_mixed [.int c, .int k] = some (.p (.int (mixed c k))) := by
  obtain ⟨h1, h2⟩ := hk
  unfold phi_law_mixed F_law_mixed
  simp (disch := omega) only [↓reduceIte, and_self, bindS, mapS, eV_q, kV_p, kV_l, kV_t, eM_q, kM_s, eB_q, kB_s, eC_q, eW_q, kW_p, aN_q, aC_q, kAC_q, kCons_q, aMv_q, kMv_s, kMv2_q, kMv3_s, eL_q, kL_q, eT_q, kT_q, kP_q, kBl_q, kT2_q, eFz_q, kFz_q, eOp_q, kOp1_q, kOp2_q, eCmp_q, kCm1_q, kCm2_q, eNeg_q, kNeg_q, eChain_q, kCh1_q, kCh2_q, kCh3_q, cT_q, kcT_q, cNot_q, kNot_q, cAnd_q, kcAnd_t, kcAnd_f, cOr_q, kcOr_t, kcOr_f, eIf_q, keIf_t, keIf_f, eAnd_q, keAnd_t, keAnd_f, eOr_q, keOr_t, keOr_f, eNot_q, keNot_q, sIf_q, kcIf_t, kcIf_f, eB1_q, kB1_q, eI2_q, kI2_q, eIsi_q, kIsi_q, kLst_q, eList_q, kList_q, kTpl_q, eTuple_q, kTuple_q, eCall_q, kCall_q, kCall2_q, eCallB_q, kCallB_q, kCl_q, allP_n, allP_c, eIx_q, kIx1_q, kIx2_q, oN_q, oS_q, koS_q, eSl_q, kSl1_q, kSl2_q, kSl3_q, cutT_p, cutT_l, sNx_q, sBk_q, sCt_q, sRetN_q, sSeq_q, kSeq_n, kSeq_r, kSeq_b, kSeq_c, sRet_q, kRet_q, sSet_q, kSet_q, sDrop_q, kDrop_q, gNm_q, gEnd_q, gAnd_q, gTp_q, kTp_q, partsT_p, partsT_t, kNx_q, sAsg_q, kAsg_q, sFor_q, kFor_q, loop_n, loop_c, kLp1_q, kLp2_n, kLp2_c, kLp2_b, kLp2_r, iL_q, kiL_q, iTp_q, kiTp_q, iSg_q, kiSg_q, iR1_q, kR1_q, iR2_q, kR2_q, iEn_q, kEn_q, iZp_q, kZp_q, kZp_t, sForV_q, kForV_q, kForV1_q, kForV2_n, kForV2_r, atL_q, kAtL_q, sApp_q, kApp_q, kApp1_q, kApp2_q, sPut_q, kPut_q, kPut1_q, kPut2_q, kPut3_q, kPut4_q, kPutEnd_q, asI_q, sAugIx_q, kAx_q, kAx0_q, kAx1_q, kAx2_q, kAx3_q, kAx4_q, kAx5_q, kAx6_q, kAx7_q, kAx8_q, sAug_q, kAug_q, kAug2_q, kAug3_q, comp_n, comp_c, kCp1_q, kCp2_t, kCp2_f, kCp3_q, kCp4_q, eComp_q, kComp_q, kLs_q, cYes_q, wipe_n, wipe_c, eM1_q, kM11_q, kM12_q, eSplit_q, kSp1_q, kSp2_q, eJoin_q, kJn1_q, kJn2_q, kJn3_q, kJn4_q, eCat_q, kCt0_q, kCt1_q, kCt2_q, kCt3_pl, kCt3_ll, kCt3_lp, kCt3_pp, itemsT_p, itemsT_t, itemsT_ll, isLT_p, isLT_l, eDn_q, eDix_q, kDx1_q, kDx2_q, kDx3_q, kDx4_q, eDget_q, kDg1_q, kDg2_q, kDg3_q, kDg4_q, kDg5_q, eDin_q, kDi1_q, kDi2_q, kDi3_q, kDi4_t, kDi4_f, sPutD_q, kPd1_q, kPd2_q, kPd3_q, kPd4_q, kPd5_q, atD_q, kAtD_q, dicT_p, dicT_o, keyT_i, keyT_s, toD_d, kV_d, sForM_q, kForM_q, loopT_n, loopT_c, kLt1_q, kLt2_n, kLt2_r, eM0_q, kM0_q, iR3_q, runF_q, kRun_r, kRun_n, cutT_s, gStarts, gFind, startE, T.toDs, T.toD, cleanT, tyD, tyOk, List.length_cons, List.length_nil, List.length_map, List.map_cons, List.map_nil, List.replicate, List.cons_append, List.nil_append, List.getElem?_cons_zero, List.getElem?_cons_succ, List.set_cons_zero, List.set_cons_succ, Nat.reduceAdd, Nat.reduceSub, Nat.reduceLT, Nat.reduceLeDiff, Nat.zero_add, gAdd_i, gAdd_g, gSub_i, gAddI_i, gMul_l, gMul_r, gDiv_i, gMod_i, gPow_i, gMulA_g, cLt_i, cLe_i, cGt_i, cGe_i, eqQ_i, neQ_i, eqQ_g, neQ_g, eqQ_ints, neQ_ints, eqQ_b, neQ_b, inQ_g, notInQ_g, gLen_g, gStr_i, gStr_s, gSum_p, gSum_l, gLen_p, gLen_l, toD_l, toDs_p, allP_map, ixT_lst, ixT_pl, ixT_pt, ixT_sg, signsD_g, atI_0, atI_1, atI_2, atI_3, atI_4, atI_5, atI_6, ofS, sg_len, ifLe, ifLt, rng_len, decide_true, decide_false, Bool.false_eq_true, Bool.not_true, Bool.not_false, Int.reduceLT, Int.reduceLE, Int.reduceEq, kit_ii, kit_ib, kit_ll, kit_bb, kit_bi, kit_ss, kit_tt, kit_tl, kit_lt, kit_ls, kit_li, kit_lb, kit_is, kit_si, kit_sb, kit_ti, kit_tb, kit_ts]
  rfl
theorem coins_ok (c w m : Int) (hw : 0 ≤ w ∧ w < 2147483647) (hm : 7 ≤ m ∧ m ≤ 1000000000000) : ∃ x, phi_law_coins [.int c, .int w, .int m] = some (.p (.int x)) ∧ 1 ≤ x ∧ x ≤ m := by
  obtain ⟨h1, h2⟩ := hw
  obtain ⟨h3, h4⟩ := hm
  have h5 := Int.emod_nonneg c (show m ≠ 0 by omega)
  have h6 := Int.emod_lt_of_pos c (show 0 < m by omega)
  have h7 := Int.emod_nonneg ((c % m + 1) * (w + 48271) * 99999999999999997) (show m ≠ 0 by omega)
  have h8 := Int.emod_lt_of_pos ((c % m + 1) * (w + 48271) * 99999999999999997) (show 0 < m by omega)
  unfold phi_law_coins F_law_coins
  have hc : w % 5 = 0 ∨ w % 5 = 1 ∨ w % 5 = 2 ∨ w % 5 = 3 ∨ w % 5 = 4 := by omega
  rcases hc with h | h | h | h | h
  · simp (disch := omega) only [h, ↓reduceIte, and_self, bindS, mapS, eV_q, kV_p, kV_l, kV_t, eM_q, kM_s, eB_q, kB_s, eC_q, eW_q, kW_p, aN_q, aC_q, kAC_q, kCons_q, aMv_q, kMv_s, kMv2_q, kMv3_s, eL_q, kL_q, eT_q, kT_q, kP_q, kBl_q, kT2_q, eFz_q, kFz_q, eOp_q, kOp1_q, kOp2_q, eCmp_q, kCm1_q, kCm2_q, eNeg_q, kNeg_q, eChain_q, kCh1_q, kCh2_q, kCh3_q, cT_q, kcT_q, cNot_q, kNot_q, cAnd_q, kcAnd_t, kcAnd_f, cOr_q, kcOr_t, kcOr_f, eIf_q, keIf_t, keIf_f, eAnd_q, keAnd_t, keAnd_f, eOr_q, keOr_t, keOr_f, eNot_q, keNot_q, sIf_q, kcIf_t, kcIf_f, eB1_q, kB1_q, eI2_q, kI2_q, eIsi_q, kIsi_q, kLst_q, eList_q, kList_q, kTpl_q, eTuple_q, kTuple_q, eCall_q, kCall_q, kCall2_q, eCallB_q, kCallB_q, kCl_q, allP_n, allP_c, eIx_q, kIx1_q, kIx2_q, oN_q, oS_q, koS_q, eSl_q, kSl1_q, kSl2_q, kSl3_q, cutT_p, cutT_l, sNx_q, sBk_q, sCt_q, sRetN_q, sSeq_q, kSeq_n, kSeq_r, kSeq_b, kSeq_c, sRet_q, kRet_q, sSet_q, kSet_q, sDrop_q, kDrop_q, gNm_q, gEnd_q, gAnd_q, gTp_q, kTp_q, partsT_p, partsT_t, kNx_q, sAsg_q, kAsg_q, sFor_q, kFor_q, loop_n, loop_c, kLp1_q, kLp2_n, kLp2_c, kLp2_b, kLp2_r, iL_q, kiL_q, iTp_q, kiTp_q, iSg_q, kiSg_q, iR1_q, kR1_q, iR2_q, kR2_q, iEn_q, kEn_q, iZp_q, kZp_q, kZp_t, sForV_q, kForV_q, kForV1_q, kForV2_n, kForV2_r, atL_q, kAtL_q, sApp_q, kApp_q, kApp1_q, kApp2_q, sPut_q, kPut_q, kPut1_q, kPut2_q, kPut3_q, kPut4_q, kPutEnd_q, asI_q, sAugIx_q, kAx_q, kAx0_q, kAx1_q, kAx2_q, kAx3_q, kAx4_q, kAx5_q, kAx6_q, kAx7_q, kAx8_q, sAug_q, kAug_q, kAug2_q, kAug3_q, comp_n, comp_c, kCp1_q, kCp2_t, kCp2_f, kCp3_q, kCp4_q, eComp_q, kComp_q, kLs_q, cYes_q, wipe_n, wipe_c, eM1_q, kM11_q, kM12_q, eSplit_q, kSp1_q, kSp2_q, eJoin_q, kJn1_q, kJn2_q, kJn3_q, kJn4_q, eCat_q, kCt0_q, kCt1_q, kCt2_q, kCt3_pl, kCt3_ll, kCt3_lp, kCt3_pp, itemsT_p, itemsT_t, itemsT_ll, isLT_p, isLT_l, eDn_q, eDix_q, kDx1_q, kDx2_q, kDx3_q, kDx4_q, eDget_q, kDg1_q, kDg2_q, kDg3_q, kDg4_q, kDg5_q, eDin_q, kDi1_q, kDi2_q, kDi3_q, kDi4_t, kDi4_f, sPutD_q, kPd1_q, kPd2_q, kPd3_q, kPd4_q, kPd5_q, atD_q, kAtD_q, dicT_p, dicT_o, keyT_i, keyT_s, toD_d, kV_d, sForM_q, kForM_q, loopT_n, loopT_c, kLt1_q, kLt2_n, kLt2_r, eM0_q, kM0_q, iR3_q, runF_q, kRun_r, kRun_n, cutT_s, gStarts, gFind, startE, T.toDs, T.toD, cleanT, tyD, tyOk, List.length_cons, List.length_nil, List.length_map, List.map_cons, List.map_nil, List.replicate, List.cons_append, List.nil_append, List.getElem?_cons_zero, List.getElem?_cons_succ, List.set_cons_zero, List.set_cons_succ, Nat.reduceAdd, Nat.reduceSub, Nat.reduceLT, Nat.reduceLeDiff, Nat.zero_add, gAdd_i, gAdd_g, gSub_i, gAddI_i, gMul_l, gMul_r, gDiv_i, gMod_i, gPow_i, gMulA_g, cLt_i, cLe_i, cGt_i, cGe_i, eqQ_i, neQ_i, eqQ_g, neQ_g, eqQ_ints, neQ_ints, eqQ_b, neQ_b, inQ_g, notInQ_g, gLen_g, gStr_i, gStr_s, gSum_p, gSum_l, gLen_p, gLen_l, toD_l, toDs_p, allP_map, ixT_lst, ixT_pl, ixT_pt, ixT_sg, signsD_g, atI_0, atI_1, atI_2, atI_3, atI_4, atI_5, atI_6, ofS, sg_len, ifLe, ifLt, rng_len, decide_true, decide_false, Bool.false_eq_true, Bool.not_true, Bool.not_false, Int.reduceLT, Int.reduceLE, Int.reduceEq, kit_ii, kit_ib, kit_ll, kit_bb, kit_bi, kit_ss, kit_tt, kit_tl, kit_lt, kit_ls, kit_li, kit_lb, kit_is, kit_si, kit_sb, kit_ti, kit_tb, kit_ts]; exact ⟨_, rfl, by omega, by omega⟩
  · simp (disch := omega) only [h, ↓reduceIte, and_self, bindS, mapS, eV_q, kV_p, kV_l, kV_t, eM_q, kM_s, eB_q, kB_s, eC_q, eW_q, kW_p, aN_q, aC_q, kAC_q, kCons_q, aMv_q, kMv_s, kMv2_q, kMv3_s, eL_q, kL_q, eT_q, kT_q, kP_q, kBl_q, kT2_q, eFz_q, kFz_q, eOp_q, kOp1_q, kOp2_q, eCmp_q, kCm1_q, kCm2_q, eNeg_q, kNeg_q, eChain_q, kCh1_q, kCh2_q, kCh3_q, cT_q, kcT_q, cNot_q, kNot_q, cAnd_q, kcAnd_t, kcAnd_f, cOr_q, kcOr_t, kcOr_f, eIf_q, keIf_t, keIf_f, eAnd_q, keAnd_t, keAnd_f, eOr_q, keOr_t, keOr_f, eNot_q, keNot_q, sIf_q, kcIf_t, kcIf_f, eB1_q, kB1_q, eI2_q, kI2_q, eIsi_q, kIsi_q, kLst_q, eList_q, kList_q, kTpl_q, eTuple_q, kTuple_q, eCall_q, kCall_q, kCall2_q, eCallB_q, kCallB_q, kCl_q, allP_n, allP_c, eIx_q, kIx1_q, kIx2_q, oN_q, oS_q, koS_q, eSl_q, kSl1_q, kSl2_q, kSl3_q, cutT_p, cutT_l, sNx_q, sBk_q, sCt_q, sRetN_q, sSeq_q, kSeq_n, kSeq_r, kSeq_b, kSeq_c, sRet_q, kRet_q, sSet_q, kSet_q, sDrop_q, kDrop_q, gNm_q, gEnd_q, gAnd_q, gTp_q, kTp_q, partsT_p, partsT_t, kNx_q, sAsg_q, kAsg_q, sFor_q, kFor_q, loop_n, loop_c, kLp1_q, kLp2_n, kLp2_c, kLp2_b, kLp2_r, iL_q, kiL_q, iTp_q, kiTp_q, iSg_q, kiSg_q, iR1_q, kR1_q, iR2_q, kR2_q, iEn_q, kEn_q, iZp_q, kZp_q, kZp_t, sForV_q, kForV_q, kForV1_q, kForV2_n, kForV2_r, atL_q, kAtL_q, sApp_q, kApp_q, kApp1_q, kApp2_q, sPut_q, kPut_q, kPut1_q, kPut2_q, kPut3_q, kPut4_q, kPutEnd_q, asI_q, sAugIx_q, kAx_q, kAx0_q, kAx1_q, kAx2_q, kAx3_q, kAx4_q, kAx5_q, kAx6_q, kAx7_q, kAx8_q, sAug_q, kAug_q, kAug2_q, kAug3_q, comp_n, comp_c, kCp1_q, kCp2_t, kCp2_f, kCp3_q, kCp4_q, eComp_q, kComp_q, kLs_q, cYes_q, wipe_n, wipe_c, eM1_q, kM11_q, kM12_q, eSplit_q, kSp1_q, kSp2_q, eJoin_q, kJn1_q, kJn2_q, kJn3_q, kJn4_q, eCat_q, kCt0_q, kCt1_q, kCt2_q, kCt3_pl, kCt3_ll, kCt3_lp, kCt3_pp, itemsT_p, itemsT_t, itemsT_ll, isLT_p, isLT_l, eDn_q, eDix_q, kDx1_q, kDx2_q, kDx3_q, kDx4_q, eDget_q, kDg1_q, kDg2_q, kDg3_q, kDg4_q, kDg5_q, eDin_q, kDi1_q, kDi2_q, kDi3_q, kDi4_t, kDi4_f, sPutD_q, kPd1_q, kPd2_q, kPd3_q, kPd4_q, kPd5_q, atD_q, kAtD_q, dicT_p, dicT_o, keyT_i, keyT_s, toD_d, kV_d, sForM_q, kForM_q, loopT_n, loopT_c, kLt1_q, kLt2_n, kLt2_r, eM0_q, kM0_q, iR3_q, runF_q, kRun_r, kRun_n, cutT_s, gStarts, gFind, startE, T.toDs, T.toD, cleanT, tyD, tyOk, List.length_cons, List.length_nil, List.length_map, List.map_cons, List.map_nil, List.replicate, List.cons_append, List.nil_append, List.getElem?_cons_zero, List.getElem?_cons_succ, List.set_cons_zero, List.set_cons_succ, Nat.reduceAdd, Nat.reduceSub, Nat.reduceLT, Nat.reduceLeDiff, Nat.zero_add, gAdd_i, gAdd_g, gSub_i, gAddI_i, gMul_l, gMul_r, gDiv_i, gMod_i, gPow_i, gMulA_g, cLt_i, cLe_i, cGt_i, cGe_i, eqQ_i, neQ_i, eqQ_g, neQ_g, eqQ_ints, neQ_ints, eqQ_b, neQ_b, inQ_g, notInQ_g, gLen_g, gStr_i, gStr_s, gSum_p, gSum_l, gLen_p, gLen_l, toD_l, toDs_p, allP_map, ixT_lst, ixT_pl, ixT_pt, ixT_sg, signsD_g, atI_0, atI_1, atI_2, atI_3, atI_4, atI_5, atI_6, ofS, sg_len, ifLe, ifLt, rng_len, decide_true, decide_false, Bool.false_eq_true, Bool.not_true, Bool.not_false, Int.reduceLT, Int.reduceLE, Int.reduceEq, kit_ii, kit_ib, kit_ll, kit_bb, kit_bi, kit_ss, kit_tt, kit_tl, kit_lt, kit_ls, kit_li, kit_lb, kit_is, kit_si, kit_sb, kit_ti, kit_tb, kit_ts]; exact ⟨_, rfl, by omega, by omega⟩
  · simp (disch := omega) only [h, ↓reduceIte, and_self, bindS, mapS, eV_q, kV_p, kV_l, kV_t, eM_q, kM_s, eB_q, kB_s, eC_q, eW_q, kW_p, aN_q, aC_q, kAC_q, kCons_q, aMv_q, kMv_s, kMv2_q, kMv3_s, eL_q, kL_q, eT_q, kT_q, kP_q, kBl_q, kT2_q, eFz_q, kFz_q, eOp_q, kOp1_q, kOp2_q, eCmp_q, kCm1_q, kCm2_q, eNeg_q, kNeg_q, eChain_q, kCh1_q, kCh2_q, kCh3_q, cT_q, kcT_q, cNot_q, kNot_q, cAnd_q, kcAnd_t, kcAnd_f, cOr_q, kcOr_t, kcOr_f, eIf_q, keIf_t, keIf_f, eAnd_q, keAnd_t, keAnd_f, eOr_q, keOr_t, keOr_f, eNot_q, keNot_q, sIf_q, kcIf_t, kcIf_f, eB1_q, kB1_q, eI2_q, kI2_q, eIsi_q, kIsi_q, kLst_q, eList_q, kList_q, kTpl_q, eTuple_q, kTuple_q, eCall_q, kCall_q, kCall2_q, eCallB_q, kCallB_q, kCl_q, allP_n, allP_c, eIx_q, kIx1_q, kIx2_q, oN_q, oS_q, koS_q, eSl_q, kSl1_q, kSl2_q, kSl3_q, cutT_p, cutT_l, sNx_q, sBk_q, sCt_q, sRetN_q, sSeq_q, kSeq_n, kSeq_r, kSeq_b, kSeq_c, sRet_q, kRet_q, sSet_q, kSet_q, sDrop_q, kDrop_q, gNm_q, gEnd_q, gAnd_q, gTp_q, kTp_q, partsT_p, partsT_t, kNx_q, sAsg_q, kAsg_q, sFor_q, kFor_q, loop_n, loop_c, kLp1_q, kLp2_n, kLp2_c, kLp2_b, kLp2_r, iL_q, kiL_q, iTp_q, kiTp_q, iSg_q, kiSg_q, iR1_q, kR1_q, iR2_q, kR2_q, iEn_q, kEn_q, iZp_q, kZp_q, kZp_t, sForV_q, kForV_q, kForV1_q, kForV2_n, kForV2_r, atL_q, kAtL_q, sApp_q, kApp_q, kApp1_q, kApp2_q, sPut_q, kPut_q, kPut1_q, kPut2_q, kPut3_q, kPut4_q, kPutEnd_q, asI_q, sAugIx_q, kAx_q, kAx0_q, kAx1_q, kAx2_q, kAx3_q, kAx4_q, kAx5_q, kAx6_q, kAx7_q, kAx8_q, sAug_q, kAug_q, kAug2_q, kAug3_q, comp_n, comp_c, kCp1_q, kCp2_t, kCp2_f, kCp3_q, kCp4_q, eComp_q, kComp_q, kLs_q, cYes_q, wipe_n, wipe_c, eM1_q, kM11_q, kM12_q, eSplit_q, kSp1_q, kSp2_q, eJoin_q, kJn1_q, kJn2_q, kJn3_q, kJn4_q, eCat_q, kCt0_q, kCt1_q, kCt2_q, kCt3_pl, kCt3_ll, kCt3_lp, kCt3_pp, itemsT_p, itemsT_t, itemsT_ll, isLT_p, isLT_l, eDn_q, eDix_q, kDx1_q, kDx2_q, kDx3_q, kDx4_q, eDget_q, kDg1_q, kDg2_q, kDg3_q, kDg4_q, kDg5_q, eDin_q, kDi1_q, kDi2_q, kDi3_q, kDi4_t, kDi4_f, sPutD_q, kPd1_q, kPd2_q, kPd3_q, kPd4_q, kPd5_q, atD_q, kAtD_q, dicT_p, dicT_o, keyT_i, keyT_s, toD_d, kV_d, sForM_q, kForM_q, loopT_n, loopT_c, kLt1_q, kLt2_n, kLt2_r, eM0_q, kM0_q, iR3_q, runF_q, kRun_r, kRun_n, cutT_s, gStarts, gFind, startE, T.toDs, T.toD, cleanT, tyD, tyOk, List.length_cons, List.length_nil, List.length_map, List.map_cons, List.map_nil, List.replicate, List.cons_append, List.nil_append, List.getElem?_cons_zero, List.getElem?_cons_succ, List.set_cons_zero, List.set_cons_succ, Nat.reduceAdd, Nat.reduceSub, Nat.reduceLT, Nat.reduceLeDiff, Nat.zero_add, gAdd_i, gAdd_g, gSub_i, gAddI_i, gMul_l, gMul_r, gDiv_i, gMod_i, gPow_i, gMulA_g, cLt_i, cLe_i, cGt_i, cGe_i, eqQ_i, neQ_i, eqQ_g, neQ_g, eqQ_ints, neQ_ints, eqQ_b, neQ_b, inQ_g, notInQ_g, gLen_g, gStr_i, gStr_s, gSum_p, gSum_l, gLen_p, gLen_l, toD_l, toDs_p, allP_map, ixT_lst, ixT_pl, ixT_pt, ixT_sg, signsD_g, atI_0, atI_1, atI_2, atI_3, atI_4, atI_5, atI_6, ofS, sg_len, ifLe, ifLt, rng_len, decide_true, decide_false, Bool.false_eq_true, Bool.not_true, Bool.not_false, Int.reduceLT, Int.reduceLE, Int.reduceEq, kit_ii, kit_ib, kit_ll, kit_bb, kit_bi, kit_ss, kit_tt, kit_tl, kit_lt, kit_ls, kit_li, kit_lb, kit_is, kit_si, kit_sb, kit_ti, kit_tb, kit_ts]; exact ⟨_, rfl, by omega, by omega⟩
  · simp (disch := omega) only [h, ↓reduceIte, and_self, bindS, mapS, eV_q, kV_p, kV_l, kV_t, eM_q, kM_s, eB_q, kB_s, eC_q, eW_q, kW_p, aN_q, aC_q, kAC_q, kCons_q, aMv_q, kMv_s, kMv2_q, kMv3_s, eL_q, kL_q, eT_q, kT_q, kP_q, kBl_q, kT2_q, eFz_q, kFz_q, eOp_q, kOp1_q, kOp2_q, eCmp_q, kCm1_q, kCm2_q, eNeg_q, kNeg_q, eChain_q, kCh1_q, kCh2_q, kCh3_q, cT_q, kcT_q, cNot_q, kNot_q, cAnd_q, kcAnd_t, kcAnd_f, cOr_q, kcOr_t, kcOr_f, eIf_q, keIf_t, keIf_f, eAnd_q, keAnd_t, keAnd_f, eOr_q, keOr_t, keOr_f, eNot_q, keNot_q, sIf_q, kcIf_t, kcIf_f, eB1_q, kB1_q, eI2_q, kI2_q, eIsi_q, kIsi_q, kLst_q, eList_q, kList_q, kTpl_q, eTuple_q, kTuple_q, eCall_q, kCall_q, kCall2_q, eCallB_q, kCallB_q, kCl_q, allP_n, allP_c, eIx_q, kIx1_q, kIx2_q, oN_q, oS_q, koS_q, eSl_q, kSl1_q, kSl2_q, kSl3_q, cutT_p, cutT_l, sNx_q, sBk_q, sCt_q, sRetN_q, sSeq_q, kSeq_n, kSeq_r, kSeq_b, kSeq_c, sRet_q, kRet_q, sSet_q, kSet_q, sDrop_q, kDrop_q, gNm_q, gEnd_q, gAnd_q, gTp_q, kTp_q, partsT_p, partsT_t, kNx_q, sAsg_q, kAsg_q, sFor_q, kFor_q, loop_n, loop_c, kLp1_q, kLp2_n, kLp2_c, kLp2_b, kLp2_r, iL_q, kiL_q, iTp_q, kiTp_q, iSg_q, kiSg_q, iR1_q, kR1_q, iR2_q, kR2_q, iEn_q, kEn_q, iZp_q, kZp_q, kZp_t, sForV_q, kForV_q, kForV1_q, kForV2_n, kForV2_r, atL_q, kAtL_q, sApp_q, kApp_q, kApp1_q, kApp2_q, sPut_q, kPut_q, kPut1_q, kPut2_q, kPut3_q, kPut4_q, kPutEnd_q, asI_q, sAugIx_q, kAx_q, kAx0_q, kAx1_q, kAx2_q, kAx3_q, kAx4_q, kAx5_q, kAx6_q, kAx7_q, kAx8_q, sAug_q, kAug_q, kAug2_q, kAug3_q, comp_n, comp_c, kCp1_q, kCp2_t, kCp2_f, kCp3_q, kCp4_q, eComp_q, kComp_q, kLs_q, cYes_q, wipe_n, wipe_c, eM1_q, kM11_q, kM12_q, eSplit_q, kSp1_q, kSp2_q, eJoin_q, kJn1_q, kJn2_q, kJn3_q, kJn4_q, eCat_q, kCt0_q, kCt1_q, kCt2_q, kCt3_pl, kCt3_ll, kCt3_lp, kCt3_pp, itemsT_p, itemsT_t, itemsT_ll, isLT_p, isLT_l, eDn_q, eDix_q, kDx1_q, kDx2_q, kDx3_q, kDx4_q, eDget_q, kDg1_q, kDg2_q, kDg3_q, kDg4_q, kDg5_q, eDin_q, kDi1_q, kDi2_q, kDi3_q, kDi4_t, kDi4_f, sPutD_q, kPd1_q, kPd2_q, kPd3_q, kPd4_q, kPd5_q, atD_q, kAtD_q, dicT_p, dicT_o, keyT_i, keyT_s, toD_d, kV_d, sForM_q, kForM_q, loopT_n, loopT_c, kLt1_q, kLt2_n, kLt2_r, eM0_q, kM0_q, iR3_q, runF_q, kRun_r, kRun_n, cutT_s, gStarts, gFind, startE, T.toDs, T.toD, cleanT, tyD, tyOk, List.length_cons, List.length_nil, List.length_map, List.map_cons, List.map_nil, List.replicate, List.cons_append, List.nil_append, List.getElem?_cons_zero, List.getElem?_cons_succ, List.set_cons_zero, List.set_cons_succ, Nat.reduceAdd, Nat.reduceSub, Nat.reduceLT, Nat.reduceLeDiff, Nat.zero_add, gAdd_i, gAdd_g, gSub_i, gAddI_i, gMul_l, gMul_r, gDiv_i, gMod_i, gPow_i, gMulA_g, cLt_i, cLe_i, cGt_i, cGe_i, eqQ_i, neQ_i, eqQ_g, neQ_g, eqQ_ints, neQ_ints, eqQ_b, neQ_b, inQ_g, notInQ_g, gLen_g, gStr_i, gStr_s, gSum_p, gSum_l, gLen_p, gLen_l, toD_l, toDs_p, allP_map, ixT_lst, ixT_pl, ixT_pt, ixT_sg, signsD_g, atI_0, atI_1, atI_2, atI_3, atI_4, atI_5, atI_6, ofS, sg_len, ifLe, ifLt, rng_len, decide_true, decide_false, Bool.false_eq_true, Bool.not_true, Bool.not_false, Int.reduceLT, Int.reduceLE, Int.reduceEq, kit_ii, kit_ib, kit_ll, kit_bb, kit_bi, kit_ss, kit_tt, kit_tl, kit_lt, kit_ls, kit_li, kit_lb, kit_is, kit_si, kit_sb, kit_ti, kit_tb, kit_ts]; exact ⟨_, rfl, by omega, by omega⟩
  · simp (disch := omega) only [h, ↓reduceIte, and_self, bindS, mapS, eV_q, kV_p, kV_l, kV_t, eM_q, kM_s, eB_q, kB_s, eC_q, eW_q, kW_p, aN_q, aC_q, kAC_q, kCons_q, aMv_q, kMv_s, kMv2_q, kMv3_s, eL_q, kL_q, eT_q, kT_q, kP_q, kBl_q, kT2_q, eFz_q, kFz_q, eOp_q, kOp1_q, kOp2_q, eCmp_q, kCm1_q, kCm2_q, eNeg_q, kNeg_q, eChain_q, kCh1_q, kCh2_q, kCh3_q, cT_q, kcT_q, cNot_q, kNot_q, cAnd_q, kcAnd_t, kcAnd_f, cOr_q, kcOr_t, kcOr_f, eIf_q, keIf_t, keIf_f, eAnd_q, keAnd_t, keAnd_f, eOr_q, keOr_t, keOr_f, eNot_q, keNot_q, sIf_q, kcIf_t, kcIf_f, eB1_q, kB1_q, eI2_q, kI2_q, eIsi_q, kIsi_q, kLst_q, eList_q, kList_q, kTpl_q, eTuple_q, kTuple_q, eCall_q, kCall_q, kCall2_q, eCallB_q, kCallB_q, kCl_q, allP_n, allP_c, eIx_q, kIx1_q, kIx2_q, oN_q, oS_q, koS_q, eSl_q, kSl1_q, kSl2_q, kSl3_q, cutT_p, cutT_l, sNx_q, sBk_q, sCt_q, sRetN_q, sSeq_q, kSeq_n, kSeq_r, kSeq_b, kSeq_c, sRet_q, kRet_q, sSet_q, kSet_q, sDrop_q, kDrop_q, gNm_q, gEnd_q, gAnd_q, gTp_q, kTp_q, partsT_p, partsT_t, kNx_q, sAsg_q, kAsg_q, sFor_q, kFor_q, loop_n, loop_c, kLp1_q, kLp2_n, kLp2_c, kLp2_b, kLp2_r, iL_q, kiL_q, iTp_q, kiTp_q, iSg_q, kiSg_q, iR1_q, kR1_q, iR2_q, kR2_q, iEn_q, kEn_q, iZp_q, kZp_q, kZp_t, sForV_q, kForV_q, kForV1_q, kForV2_n, kForV2_r, atL_q, kAtL_q, sApp_q, kApp_q, kApp1_q, kApp2_q, sPut_q, kPut_q, kPut1_q, kPut2_q, kPut3_q, kPut4_q, kPutEnd_q, asI_q, sAugIx_q, kAx_q, kAx0_q, kAx1_q, kAx2_q, kAx3_q, kAx4_q, kAx5_q, kAx6_q, kAx7_q, kAx8_q, sAug_q, kAug_q, kAug2_q, kAug3_q, comp_n, comp_c, kCp1_q, kCp2_t, kCp2_f, kCp3_q, kCp4_q, eComp_q, kComp_q, kLs_q, cYes_q, wipe_n, wipe_c, eM1_q, kM11_q, kM12_q, eSplit_q, kSp1_q, kSp2_q, eJoin_q, kJn1_q, kJn2_q, kJn3_q, kJn4_q, eCat_q, kCt0_q, kCt1_q, kCt2_q, kCt3_pl, kCt3_ll, kCt3_lp, kCt3_pp, itemsT_p, itemsT_t, itemsT_ll, isLT_p, isLT_l, eDn_q, eDix_q, kDx1_q, kDx2_q, kDx3_q, kDx4_q, eDget_q, kDg1_q, kDg2_q, kDg3_q, kDg4_q, kDg5_q, eDin_q, kDi1_q, kDi2_q, kDi3_q, kDi4_t, kDi4_f, sPutD_q, kPd1_q, kPd2_q, kPd3_q, kPd4_q, kPd5_q, atD_q, kAtD_q, dicT_p, dicT_o, keyT_i, keyT_s, toD_d, kV_d, sForM_q, kForM_q, loopT_n, loopT_c, kLt1_q, kLt2_n, kLt2_r, eM0_q, kM0_q, iR3_q, runF_q, kRun_r, kRun_n, cutT_s, gStarts, gFind, startE, T.toDs, T.toD, cleanT, tyD, tyOk, List.length_cons, List.length_nil, List.length_map, List.map_cons, List.map_nil, List.replicate, List.cons_append, List.nil_append, List.getElem?_cons_zero, List.getElem?_cons_succ, List.set_cons_zero, List.set_cons_succ, Nat.reduceAdd, Nat.reduceSub, Nat.reduceLT, Nat.reduceLeDiff, Nat.zero_add, gAdd_i, gAdd_g, gSub_i, gAddI_i, gMul_l, gMul_r, gDiv_i, gMod_i, gPow_i, gMulA_g, cLt_i, cLe_i, cGt_i, cGe_i, eqQ_i, neQ_i, eqQ_g, neQ_g, eqQ_ints, neQ_ints, eqQ_b, neQ_b, inQ_g, notInQ_g, gLen_g, gStr_i, gStr_s, gSum_p, gSum_l, gLen_p, gLen_l, toD_l, toDs_p, allP_map, ixT_lst, ixT_pl, ixT_pt, ixT_sg, signsD_g, atI_0, atI_1, atI_2, atI_3, atI_4, atI_5, atI_6, ofS, sg_len, ifLe, ifLt, rng_len, decide_true, decide_false, Bool.false_eq_true, Bool.not_true, Bool.not_false, Int.reduceLT, Int.reduceLE, Int.reduceEq, kit_ii, kit_ib, kit_ll, kit_bb, kit_bi, kit_ss, kit_tt, kit_tl, kit_lt, kit_ls, kit_li, kit_lb, kit_is, kit_si, kit_sb, kit_ti, kit_tb, kit_ts]; exact ⟨_, rfl, by omega, by omega⟩
end LW
set_option Elab.async false
set_option linter.all false
set_option maxRecDepth 100000
namespace DL
open PySem PySem.Spec PyProof.Rows L2
abbrev Nm := List Nat
abbrev eS (l : Nm) : D := .str (sg l)
abbrev eLs {α : Type} (e : α → D) (xs : List α) : D := .lst (xs.map e)
abbrev eSq {α : Type} (e : α → D) (xs : List α) : D := .tup (xs.map e)
section
variable {α β γ δ ε ζ η θ : Type}
abbrev eT1 (a : α → D) (p : α) : D := .tup [a p]
abbrev eT2 (a : α → D) (b : β → D) (p : α × β) : D := .tup [a p.1, b p.2]
abbrev eT3 (a : α → D) (b : β → D) (c : γ → D) (p : α × β × γ) : D := .tup [a p.1, b p.2.1, c p.2.2]
abbrev eT4 (a : α → D) (b : β → D) (c : γ → D) (d : δ → D) (p : α × β × γ × δ) : D := .tup [a p.1, b p.2.1, c p.2.2.1, d p.2.2.2]
abbrev eT5 (a : α → D) (b : β → D) (c : γ → D) (d : δ → D) (e : ε → D) (p : α × β × γ × δ × ε) : D := .tup [a p.1, b p.2.1, c p.2.2.1, d p.2.2.2.1, e p.2.2.2.2]
abbrev eT6 (a : α → D) (b : β → D) (c : γ → D) (d : δ → D) (e : ε → D) (f : ζ → D) (p : α × β × γ × δ × ε × ζ) : D := .tup [a p.1, b p.2.1, c p.2.2.1, d p.2.2.2.1, e p.2.2.2.2.1, f p.2.2.2.2.2]
abbrev eT7 (a : α → D) (b : β → D) (c : γ → D) (d : δ → D) (e : ε → D) (f : ζ → D) (g : η → D) (p : α × β × γ × δ × ε × ζ × η) : D := .tup [a p.1, b p.2.1, c p.2.2.1, d p.2.2.2.1, e p.2.2.2.2.1, f p.2.2.2.2.2.1, g p.2.2.2.2.2.2]
def eO (e : α → D) : Option α → D
  | none => .non
  | some a => e a
abbrev kS (l : Nm) : Key := .inr (sg l)
abbrev kI (i : Int) : Key := .inl i
abbrev eKd (k : β → Key) (e : α → D) (kv : List (β × α)) : D := .dic (kv.map fun p => (k p.1, e p.2))
abbrev oL (e : α → D) (xs : List α) : T := .lst ((xs.map e).map T.p)
abbrev oE (E : α → T) (xs : List α) : T := .lst (xs.map E)
abbrev oK (k : β → Key) (e : α → D) (kv : List (β × α)) : T := .dic (pairsT (kv.map fun p => (k p.1, e p.2)))
abbrev pE (e : α → D) (x : α) : T := .p (e x)
theorem oE_toD {E : α → T} {e : α → D} (h : ∀ x, (E x).toD = e x) (xs : List α) : (oE E xs).toD = eLs e xs := by
  show D.lst (T.toDs (xs.map E)) = _
  rw [toDs_map2 E e xs fun x _ => h x]
theorem oL_toD {e : α → D} (xs : List α) : (oL e xs).toD = eLs e xs := toD_l
def eOT (E : α → T) : Option α → T
  | none => .p .non
  | some a => E a
inductive Lp (σ ρ : Type) where
  | nx (s : σ) | bk (s : σ) | rt (r : ρ)
def fold {σ : Type} (f : α → σ → Option σ) : List α → σ → Option σ
  | [], s => some s
  | x :: xs, s => (f x s).bind (fold f xs)
def lpB {σ ρ : Type} (k : σ → Option (Lp σ ρ)) : Lp σ ρ → Option (Lp σ ρ)
  | .nx s => k s
  | .bk s => some (.nx s)
  | .rt r => some (.rt r)
def foldB {σ ρ : Type} (f : α → σ → Option (Lp σ ρ)) : List α → σ → Option (Lp σ ρ)
  | [], s => some (.nx s)
  | x :: xs, s => (f x s).bind (lpB (foldB f xs))
def lpK {σ ρ τ : Type} (k : σ → Option τ) (a : ρ → Option τ) : Lp σ ρ → Option τ
  | .nx s => k s
  | .bk _ => none
  | .rt r => a r
def mapO (f : α → Option β) : List α → Option (List β)
  | [] => some []
  | x :: xs => (f x).bind fun y => (mapO f xs).map (y :: ·)
def compO (f : α → Option β) (xs : List α) : Option (List β) := if xs.length ≤ 1000000 then mapO f xs else none
def compT (f : α → β) (xs : List α) : Option (List β) := if xs.length ≤ 1000000 then some (xs.map f) else none
def compOF (p : α → Bool) (f : α → Option β) (xs : List α) : Option (List β) := if xs.length ≤ 1000000 then mapO f (xs.filter p) else none
def compTF (p : α → Bool) (f : α → β) (xs : List α) : Option (List β) := if xs.length ≤ 1000000 then some ((xs.filter p).map f) else none
def mulN (a b : Int) : Option Int := if mulOk a b = true then some (a * b) else none
def divN (a b : Int) : Option Int := if divOk a b = true then some (a / b) else none
def modN (a b : Int) : Option Int := if modOk a b = true then some (a % b) else none
def powN (a b : Int) : Option Int := if powOk a b = true then some (a ^ b.toNat) else none
def strN (a : Int) : Option Nm := if a.natAbs < 1606938044258990275541962092341162602522202993782792835301376 then some (dg a) else none
def catS (a b : Nm) : Option Nm := if a.length + b.length ≤ 16777216 then some (a ++ b) else none
def repN (a : Nm) (n : Int) : Option Nm := if -1000000000 < n ∧ n < 1000000000 ∧ a.length * n.toNat ≤ 16777216 then some (List.replicate n.toNat a).flatten else none
def ixS (l : Nm) (i : Int) : Option Nm := if l.length ≤ 16777216 then (atI l i).map fun c => [c] else none
def cutN (l : Nm) (lo hi : Option Int) : Option Nm := if l.length ≤ 16777216 then some (cutA l lo hi) else none
def lenS (l : Nm) : Option Int := if l.length ≤ 16777216 then some (l.length : Int) else none
def push (xs : List α) (x : α) : Option (List α) := if xs.length < 16000000 then some (xs ++ [x]) else none
def catL (xs ys : List α) : Option (List α) := if xs.length + ys.length ≤ 16777216 then some (xs ++ ys) else none
def extL (xs ys : List α) : Option (List α) := if xs.length + ys.length < 16000000 then some (xs ++ ys) else none
def putI (xs : List α) (i : Int) (x : α) : Option (List α) := (ixN xs.length i).map fun k => xs.set k x
def addI (xs : List Int) (i d : Int) : Option (List Int) := if 0 ≤ i then (atI xs i).bind fun x => putI xs i (x + d) else none
def subI (xs : List Int) (i d : Int) : Option (List Int) := if 0 ≤ i then (atI xs i).bind fun x => putI xs i (x - d) else none
def rngN (lo : Int) (n : Nat) : List Int := (List.range n).map fun (k : Nat) => lo + (k : Int)
def rng1 (b : Int) : Option (List Int) := if b < 4611686018427387904 ∧ -4611686018427387904 ≤ b then some (rngN 0 b.toNat) else none
def rng2 (a b : Int) : Option (List Int) := if (a < 4611686018427387904 ∧ -4611686018427387904 ≤ a) ∧ (b < 4611686018427387904 ∧ -4611686018427387904 ≤ b) then some (rngN a (b - a).toNat) else none
def enumN : Nat → List α → List (Int × α)
  | _, [] => []
  | i, x :: xs => ((i : Int), x) :: enumN (i + 1) xs
def zipN : List α → List β → List (α × β)
  | x :: xs, y :: ys => (x, y) :: zipN xs ys
  | _, _ => []
def lkN [DecidableEq β] (kv : List (β × α)) (k : β) : Option α := (kv.find? fun p => decide (p.1 = k)).map (·.2)
def putN [DecidableEq β] (kv : List (β × α)) (k : β) (x : α) : List (β × α) := if (kv.any fun p => decide (p.1 = k)) = true then kv.map (fun p => if p.1 = k then (p.1, x) else p) else kv ++ [(k, x)]
def putK [DecidableEq β] (kv : List (β × α)) (k : β) (x : α) : Option (List (β × α)) := if kv.length < 16000000 then some (putN kv k x) else none
def mkK [DecidableEq β] (ps : List (β × α)) : List (β × α) := ps.foldl (fun acc p => putN acc p.1 p.2) []
end
def Wp (o : Option (Fl × Env)) (Q : Fl → Env → Prop) : Prop := ∃ fl e, o = some (fl, e) ∧ Q fl e
section
variable {env e e1 e2 e3 : Env} {f fa fb fc : EF} {ra : AF} {c c2 : CF} {A B X Y F : SF} {G : GF} {Q : Fl → Env → Prop} {t u : T} {d a b : D} {it : IF} {ds es : List D} {α β σ ρ : Type}
theorem w_nx (h : Q .nx env) : Wp (sNx env) Q := ⟨_, _, rfl, h⟩
theorem w_seq (h : A env = some (.nx, e1)) (k : Wp (B e1) Q) : Wp (sSeq A B env) Q := by
  obtain ⟨fl, e, h1, h2⟩ := k
  exact ⟨fl, e, by rw [sSeq_q, h, bindS, kSeq_n, h1], h2⟩
theorem seq_assoc : sSeq (sSeq A B) F env = sSeq A (sSeq B F) env := by
  rw [sSeq_q, sSeq_q, sSeq_q]
  cases A env with
  | none => rfl
  | some r =>
    obtain ⟨fl, e⟩ := r
    cases fl <;> rfl
theorem seq_one : sSeq A sNx env = A env := by
  rw [sSeq_q]
  cases A env with
  | none => rfl
  | some r =>
    obtain ⟨fl, e⟩ := r
    cases fl <;> rfl
theorem w_assoc (k : Wp (sSeq A (sSeq B F) env) Q) : Wp (sSeq (sSeq A B) F env) Q := by unfold Wp at *; rw [seq_assoc]; exact k
theorem w_one (k : Wp (sSeq A sNx env) Q) : Wp (A env) Q := by unfold Wp at *; rw [seq_one] at k; exact k
theorem w_snx (k : Wp (B env) Q) : Wp (sSeq sNx B env) Q := k
theorem w_sret (h : f env = some (t, e)) (q : Q (.rt t) e) : Wp (sSeq (sRet f) B env) Q := ⟨.rt t, e, by rw [sSeq_q, sRet_q, h]; rfl, q⟩
theorem w_if {τ : Type} {n1 n2 : Option τ} {r : τ} {v : Bool} (hc : c env = some (v, e)) (h : (if v = true then n1 else n2) = some r) (ht : v = true → n1 = some r → Wp (sSeq X B e) Q) (hf : v = false → n2 = some r → Wp (sSeq Y B e) Q) : Wp (sSeq (sIf c X Y) B env) Q := by
  have hs : sIf c X Y env = if v = true then X e else Y e := by rw [sIf_q, hc]; rfl
  have go : ∀ Z : SF, Wp (sSeq Z B e) Q → sIf c X Y env = Z e → Wp (sSeq (sIf c X Y) B env) Q := fun Z hz he => by
    obtain ⟨fl, e', h1, h2⟩ := hz
    exact ⟨fl, e', by rw [sSeq_q, he, ← sSeq_q, h1], h2⟩
  cases v with
  | true => exact go X (ht rfl h) hs
  | false => exact go Y (hf rfl h) hs
theorem w_join {P : Env → Prop} (h1 : Wp (A env) fun fl e => fl = .nx ∧ P e) (h2 : ∀ e, P e → Wp (B e) Q) : Wp (sSeq A B env) Q := by
  obtain ⟨fl, e, h, rfl, p⟩ := h1
  exact w_seq h (h2 e p)
theorem w_set {i : Nat} (h : f env = some (t, e)) (hi : i < e.length) : sSet i f env = some (.nx, e.set i (some t)) := by
  rw [sSet_q, h, bindS, kSet_q, if_pos hi]
theorem w_for {P : Env → Prop} (hi : it env = some (ds, e1)) (hl : ∃ e2, loopD G F ds e1 = some (.nx, e2) ∧ P e2) (k : ∀ e, P e → Wp (B e) Q) : Wp (sSeq (sFor it G F) B env) Q := by
  obtain ⟨e2, h, p⟩ := hl
  exact w_seq (by rw [sFor_q, hi, bindS, kFor_q, h]) (k e2 p)
theorem loop_fold (R : σ → Env → Prop) {dd : α → D} {fn : α → σ → Option σ} (hb : ∀ x s s' env, R s env → fn x s = some s' → ∃ e1, G (.p (dd x)) env = some e1 ∧ Wp (F e1) fun fl e => (fl = .nx ∨ fl = .ct) ∧ R s' e) :
    ∀ (xs : List α) (s s' : σ) (env : Env), R s env → fold fn xs s = some s' → ∃ e2, loopD G F (xs.map dd) env = some (.nx, e2) ∧ R s' e2
  | [], s, s', env, hr, h => by cases h; exact ⟨env, rfl, hr⟩
  | x :: xs, s, s', env, hr, h => by
    obtain ⟨s1, h1, h2⟩ := obind h
    obtain ⟨e1, g1, fl, e2, g2, g3, g4⟩ := hb x s s1 env hr h1
    obtain ⟨e3, g5, g6⟩ := loop_fold R hb xs s1 s' e2 g4 h2
    refine ⟨e3, ?_, g6⟩
    rw [List.map_cons, loop_c, g1, bindS, kLp1_q, g2, bindS]
    rcases g3 with rfl | rfl
    · rw [kLp2_n, g5]
    · rw [kLp2_c, g5]
def QB (R : σ → Env → Prop) (ET : ρ → T) : Lp σ ρ → Fl → Env → Prop
  | .nx s => fun fl e => (fl = .nx ∨ fl = .ct) ∧ R s e
  | .bk s => fun fl e => fl = .bk ∧ R s e
  | .rt r => fun fl _ => fl = .rt (ET r)
theorem runF_wp {n k : Nat} {xs : List D} {t : T} (hk : xs.length = k) (h : Wp (F (startE n xs)) fun fl _ => fl = .rt t ∨ (fl = .nx ∧ t = .p .non)) : runF n k F xs = some t := by
  obtain ⟨fl, e, h1, h2⟩ := h
  unfold runF
  rw [if_pos hk, h1]
  rcases h2 with rfl | ⟨rfl, rfl⟩ <;> rfl
theorem bnd {τ υ : Type} {o : Option τ} {k : τ → Option υ} {r : υ} {P : Prop} (h : o.bind k = some r) (g : ∀ v, o = some v → k v = some r → P) : P := by
  obtain ⟨v, h1, h2⟩ := obind h
  exact g v h1 h2
end
end DL
set_option Elab.async false
set_option linter.all false
set_option maxRecDepth 100000
namespace DL
open PySem PySem.Spec PyProof.Rows L2
section
variable {env e e1 e2 e3 w : Env} {f fa fb fc fi fo fk fx : EF} {ra : AF} {c c2 test : CF} {G : GF} {it : IF} {t u v : T} {ts us : List T} {d x y z : D} {ds es : List D} {i j k n : Nat} {a b m : Int} {p q : Nm} {α β κ : Type}
theorem e_v (h : env[i]? = some (some (.p d))) : eV i env = some (.p d, env) := by rw [eV_q, h]; rfl
theorem e_vl {xs : List T} (h : env[i]? = some (some (.lst xs))) (hd : (T.lst xs).toD = d) : eV i env = some (.p d, env.set i (some (.p d))) := by rw [eV_q, h, ← hd]; rfl
theorem e_m (h : env[i]? = some (some t)) : eM i env = some (t, env.set i none) := by rw [eM_q, h]; rfl
theorem e_b (h : env[i]? = some (some t)) : eB i env = some (t, env) := by rw [eB_q, h]; rfl
theorem e_c : eC d env = some (.p d, env) := rfl
theorem e_s (s : String) : eC (.str (PySem.Str.ofString s)) env = some (.p (eS (cod s)), env) := by rw [ofS]; rfl
theorem e_w (h : f env = some (.p d, e)) : eW f env = some (.p d, e) := by rw [eW_q, h]; rfl
theorem e_fz (h : f env = some (t, e)) (hd : t.toD = d) : eFz f env = some (.p d, e) := by rw [eFz_q, h, ← hd]; rfl
theorem a_n : aN env = some ([], env) := rfl
theorem a_c (h : f env = some (t, e1)) (hr : ra e1 = some (ts, e2)) : aC f ra env = some (t :: ts, e2) := by rw [aC_q, h, bindS, kAC_q, hr]; rfl
theorem e_l (h : ra env = some (ts, e)) (hl : Nat.ble ts.length 1000 = true) (ht : T.lst ts = t) : eL ra env = some (t, e) := by rw [eL_q, h, bindS, kL_q, if_pos (Nat.le_of_ble_eq_true hl), ht]
theorem e_t (h : ra env = some (ts, e)) (hl : Nat.ble ts.length 1000 = true) (ht : mkTup ts = t) : eT ra env = some (t, e) := by rw [eT_q, h, bindS, kT_q, if_pos (Nat.le_of_ble_eq_true hl), ht]
theorem e_op {g : D → D → Option D} (h1 : fa env = some (.p x, e1)) (h2 : fb e1 = some (.p y, e2)) (hg : g x y = some z) : eOp g fa fb env = some (.p z, e2) := by rw [eOp_q, h1, bindS, kOp1_q, h2, bindS, kOp2_q, hg]; rfl
theorem e_cmp {g : D → D → Option Bool} {r : Bool} (h1 : fa env = some (t, e1)) (h2 : fb e1 = some (u, e2)) (d1 : t.toD = x) (d2 : u.toD = y) (hg : g x y = some r) : eCmp g fa fb env = some (.p (.bl r), e2) := by rw [eCmp_q, h1, bindS, kCm1_q, h2, bindS, kCm2_q, d1, d2, hg]; rfl
theorem e_chain {g1 g2 : Int → Int → Bool} (h1 : fa env = some (.p (.int a), e1)) (h2 : fb e1 = some (.p (.int b), e2)) (h3 : fc e2 = some (.p (.int m), e2)) : eChain g1 g2 fa fb fc env = some (.p (.bl (g1 a b && g2 b m)), e2) := by
  rw [eChain_q, h1, bindS, kCh1_q, h2, bindS, kCh2_q]
  cases g1 a b with
  | true => rw [if_pos rfl, h3, bindS, kCh3_q]; rfl
  | false => rfl
theorem g_mul (h : mulN a b = some m) : gMul (.int a) (.int b) = some (.int m) := by
  unfold mulN at h
  split at h
  · rename_i c; cases h; exact if_pos c
  · cases h
theorem g_mod (h : modN a b = some m) : gMod (.int a) (.int b) = some (.int m) := by
  unfold modN at h
  split at h
  · rename_i c; cases h; exact if_pos c
  · cases h
def litM (b : Int) : Bool := decide (-18446744073709551616 < b ∧ b < 18446744073709551616)
theorem g_mulL (h : litM a = true) : gMul (.int a) (.int b) = some (.int (a * b)) := gMul_l (of_decide_eq_true h).1 (of_decide_eq_true h).2
theorem g_divR (h : decide (0 < b ∧ b < 1606938044258990275541962092341162602522202993782792835301376) = true) : gDiv (.int a) (.int b) = some (.int (a / b)) := gDiv_i (of_decide_eq_true h).1 (of_decide_eq_true h).2
theorem g_modR (h : decide (0 < b) = true) : gMod (.int a) (.int b) = some (.int (a % b)) := gMod_i (of_decide_eq_true h)
theorem g_powR (h : decide (0 ≤ b ∧ b ≤ 1000 ∧ 0 ≤ a ∧ a < 18446744073709551616) = true) : gPow (.int a) (.int b) = some (.int (a ^ b.toNat)) := gPow_i (of_decide_eq_true h).1 (of_decide_eq_true h).2.1 (of_decide_eq_true h).2.2.1 (of_decide_eq_true h).2.2.2
theorem g_cat (h : catS p q = some r) : gAdd (eS p) (eS q) = some (eS r) := by
  unfold catS at h
  split at h
  · rename_i c; cases h; exact gAdd_g c
  · cases h
theorem g_ne {r : Bool} (h : eqQ x y = some r) : neQ x y = some (!r) := by unfold neQ; rw [h]; rfl
theorem g_nin {r : Bool} (h : inQ x y = some r) : notInQ x y = some (!r) := by unfold notInQ; rw [h]; rfl
theorem g_inL (p : Nm) (xs : List Nm) : inQ (eS p) (eLs eS xs) = some (decide (p ∈ xs)) := by
  have := inQ_strs (sg p) (xs.map sg)
  rw [List.map_map] at this
  show inQ (.str (sg p)) (.lst (xs.map eS)) = _
  rw [show xs.map eS = xs.map (D.str ∘ sg) from rfl, this]
  congr 1
  apply decide_eq_decide.mpr
  rw [List.mem_map]
  exact ⟨fun ⟨y, h1, h2⟩ => by rw [← sg_inj.mp h2]; exact h1, fun h => ⟨p, h, rfl⟩⟩
theorem c_t {r : Bool} (h : f env = some (.p (.bl r), e)) : cT f env = some (r, e) := by rw [cT_q, h]; rfl
theorem c_not {r : Bool} (h : c env = some (r, e)) : cNot c env = some (!r, e) := by rw [cNot_q, h]; rfl
theorem c_and {r s : Bool} (h : c env = some (r, e)) (h2 : c2 e = some (s, e)) : cAnd c c2 env = some (r && s, e) := by
  rw [cAnd_q, h, bindS]; cases r
  · rfl
  · exact h2
theorem c_andO {r s : Bool} {o : Option Bool} (h : c env = some (r, e)) (ho : (if r = true then o else some false) = some s) (h2 : r = true → o = some s → c2 e = some (s, e)) : cAnd c c2 env = some (s, e) := by
  rw [cAnd_q, h, bindS]; cases r
  · cases ho; rfl
  · exact h2 rfl ho
theorem c_orO {r s : Bool} {o : Option Bool} (h : c env = some (r, e)) (ho : (if r = true then some true else o) = some s) (h2 : r = false → o = some s → c2 e = some (s, e)) : cOr c c2 env = some (s, e) := by
  rw [cOr_q, h, bindS]; cases r
  · exact h2 rfl ho
  · cases ho; rfl
theorem e_andO {r s : Bool} {o : Option Bool} (h : fa env = some (.p (.bl r), e)) (ho : (if r = true then o else some false) = some s) (h2 : r = true → o = some s → fb e = some (.p (.bl s), e)) : eAnd fa fb env = some (.p (.bl s), e) := by
  rw [eAnd_q, c_t h, bindS]; cases r
  · cases ho; rfl
  · exact h2 rfl ho
theorem e_b1 {g : T → Option D} (h : f env = some (t, e)) (hg : g t = some d) : eB1 g f env = some (.p d, e) := by rw [eB1_q, h, bindS, kB1_q, hg]; rfl
theorem g_lenL (xs : List α) (dd : α → D) : gLen (.p (.lst (xs.map dd))) = some (.int (xs.length : Int)) := by rw [gLen_p, List.length_map]
theorem g_lenO (xs : List α) (dd : α → D) : gLen (oL dd xs) = some (.int (xs.length : Int)) := by rw [gLen_l, List.length_map, List.length_map]
theorem g_lenE (xs : List α) (E : α → T) : gLen (oE E xs) = some (.int (xs.length : Int)) := by rw [gLen_l, List.length_map]
theorem g_sumO (xs : List Int) : gSum (oL D.int xs) = some (.int xs.sum) := gSum_l
theorem e_i2 {g : Int → Int → Int} (h : ra env = some ([.p (.int a), .p (.int b)], e)) : eI2 g ra env = some (.p (.int (g a b)), e) := by rw [eI2_q, h]; rfl
def isiN (ty : String) (d : D) : Option Bool := if tyOk d = true then kitB (tyD d) ty else none
theorem e_list (h : f env = some (t, e)) (hi : itemsT t = some ds) (hd : ds.map T.p = ts) : eList f env = some (.lst ts, e) := by rw [eList_q, h, bindS, kList_q, hi, ← hd]; rfl
theorem e_tuple (h : f env = some (t, e)) (hi : itemsT t = some ds) : eTuple f env = some (.p (.tup ds), e) := by rw [eTuple_q, h, bindS, kTuple_q, hi]; rfl
theorem it_p (xs : List α) (dd : α → D) : itemsT (.p (.lst (xs.map dd))) = some (xs.map dd) := rfl
theorem it_o (xs : List α) (dd : α → D) : itemsT (oL dd xs) = some (xs.map dd) := itemsT_l
theorem e_call {φ : List D → Option T} (h : ra env = some (ts, e)) (hp : allP ts = some ds) (hc : φ ds = some t) : eCall φ ra env = some (t, e) := by rw [eCall_q, h, bindS, kCall_q, hp, bindS, kCall2_q, hc]; rfl
theorem e_callB {φ : List D → Option T} (h : ra env = some (ts, e)) (hp : T.toDs ts = ds) (hc : φ ds = some t) (hk : cleanT t = true) : eCallB φ ra env = some (t, e) := by rw [eCallB_q, h, bindS, kCallB_q, hp, hc, bindS, kCl_q, if_pos hk]
theorem e_ix (h1 : fa env = some (t, e1)) (h2 : fi e1 = some (.p (.int a), e2)) (h : ixT t a = some u) : eIx fa fi env = some (u, e2) := by rw [eIx_q, h1, bindS, kIx1_q, h2, bindS, kIx2_q, h]; rfl
theorem x_l {xs : List α} {dd : α → D} {x : α} (h : atI xs a = some x) : ixT (.p (.lst (xs.map dd))) a = some (.p (dd x)) := by rw [ixT_pl, atI_map, h]; rfl
theorem x_o {xs : List α} {dd : α → D} {x : α} (h : atI xs a = some x) : ixT (oL dd xs) a = some (.p (dd x)) := by rw [ixT_lst, atI_map, atI_map, h]; rfl
theorem x_s (h : ixS p a = some q) : ixT (.p (eS p)) a = some (.p (eS q)) := by
  unfold ixS at h
  split at h
  · rename_i c
    obtain ⟨z, h1, rfl⟩ := omap h
    rw [ixT_sg c, h1]; rfl
  · cases h
theorem x_t (n : Nat) (h : ds[n]? = some d) : ixT (.p (.tup ds)) (n : Int) = some (.p d) := by
  rw [ixT_pt]
  have : atI ds (n : Int) = some d := atI_nat h
  rw [this]; rfl
def ixD (d : D) (i : Int) : Option D := match ixT (.p d) i with
  | some (.p x) => some x
  | _ => none
theorem x_d (h : ixD d a = some x) : ixT (.p d) a = some (.p x) := by
  unfold ixD at h
  split at h
  · rename_i y e; cases h; exact e
  · cases h
theorem o_n : oN env = some (none, env) := rfl
theorem o_s (h : f env = some (.p (.int a), e)) : oS f env = some (some a, e) := by rw [oS_q, h]; rfl
theorem e_sl {lo hi : OF} {l r : Option Int} (h1 : fa env = some (t, e1)) (h2 : lo e1 = some (l, e2)) (h3 : hi e2 = some (r, e3)) (h : cutT t l r = some u) : eSl fa lo hi env = some (u, e3) := by rw [eSl_q, h1, bindS, kSl1_q, h2, bindS, kSl2_q, h3, bindS, kSl3_q, h]; rfl
theorem s_o {xs : List α} {dd : α → D} {l r : Option Int} : cutT (oL dd xs) l r = some (oL dd (cutA xs l r)) := by rw [cutT_l, cutD_map]
theorem cutS_g (l : Nm) (lo hi : Option Int) : cutS (sg l) lo hi = sg (cutA l lo hi) := rfl
theorem s_s {l r : Option Int} (h : cutN p l r = some q) : cutT (.p (eS p)) l r = some (.p (eS q)) := by
  unfold cutN at h
  split at h
  · rename_i c; cases h; rw [cutT_s (by rw [sg_len]; exact c), cutS_g]
  · cases h
theorem i_l (h : f env = some (.p (.lst ds), e)) : iL f env = some (ds, e) := by rw [iL_q, h]; rfl
theorem rngD_N (lo : Int) (n : Nat) : rngD lo n = (rngN lo n).map D.int := by unfold rngD rngN; rw [List.map_map]; rfl
theorem i_r1 {xs : List Int} (h : ra env = some ([.p (.int a)], e)) (hx : rng1 a = some xs) : iR1 ra env = some (xs.map D.int, e) := by
  unfold rng1 at hx
  split at hx
  · rename_i c; cases hx; rw [iR1_q, h, bindS, kR1_q c.2 c.1, rngD_N]
  · cases hx
theorem enumD_N {dd : α → D} : ∀ (k : Nat) (xs : List α), enumD k (xs.map dd) = (enumN k xs).map (eT2 D.int dd)
  | _, [] => rfl
  | k, x :: xs => by rw [List.map_cons, enumD, enumD_N (k + 1) xs]; rfl
theorem i_en {xs : List α} {dd : α → D} (h : ra env = some ([.p (.lst (xs.map dd))], e)) : iEn ra env = some ((enumN 0 xs).map (eT2 D.int dd), e) := by rw [iEn_q, h, bindS, kEn_q, enumD_N]
theorem comp_go {own : List Nat} {elt : EF} {dd : α → D} {E : β → T} {p : α → Bool} {fn : α → Option β}
    (hb : ∀ x, ∃ e1, G (.p (dd x)) w = some e1 ∧ ∃ e2, test e1 = some (p x, e2) ∧ (p x = false → wipeE e2 own = w) ∧ ∀ y, p x = true → fn x = some y → ∃ e3, elt e2 = some (E y, e3) ∧ wipeE e3 own = w) :
    ∀ (xs : List α) (ys : List β), mapO fn (xs.filter p) = some ys → compD own G test elt (xs.map dd) w = some (ys.map E, w)
  | [], ys, h => by cases h; rfl
  | x :: xs, ys, h => by
    obtain ⟨e1, h1, e2, h2, h3, h4⟩ := hb x
    rw [List.map_cons, comp_c, h1, bindS, kCp1_q, h2, bindS]
    cases hp : p x with
    | false =>
      rw [List.filter_cons_of_neg (by rw [hp]; simp)] at h
      rw [kCp2_f, h3 hp]
      exact comp_go hb xs ys h
    | true =>
      rw [List.filter_cons_of_pos hp] at h
      obtain ⟨y, k1, k2⟩ := obind h
      obtain ⟨zs, k3, rfl⟩ := omap k2
      obtain ⟨e3, h5, h6⟩ := h4 y hp k1
      rw [kCp2_t, h5, bindS, kCp3_q, h6, comp_go hb xs zs k3, mapS, kCp4_q]; rfl
theorem mapO_some (g : α → β) : ∀ xs : List α, mapO (fun x => some (g x)) xs = some (xs.map g)
  | [] => rfl
  | x :: xs => by show ((mapO (fun x => some (g x)) xs).map (g x :: ·)) = _; rw [mapO_some g xs]; rfl
theorem e_comp {own : List Nat} {elt : EF} {dd : α → D} {E : β → T} {p : α → Bool} {fn : α → Option β} {xs : List α} {ys : List β} (hi : it env = some (xs.map dd, e)) (hw : wipeE e own = w) (h : compOF p fn xs = some ys)
    (hb : ∀ x, ∃ e1, G (.p (dd x)) w = some e1 ∧ ∃ e2, test e1 = some (p x, e2) ∧ (p x = false → wipeE e2 own = w) ∧ ∀ y, p x = true → fn x = some y → ∃ e3, elt e2 = some (E y, e3) ∧ wipeE e3 own = w) :
    eComp own it G test elt env = some (oE E ys, w) := by
  unfold compOF at h
  split at h
  · rename_i c
    rw [eComp_q, hi, bindS, kComp_q, if_pos (by rw [List.length_map]; exact c), hw, comp_go hb xs ys h]; rfl
  · cases h
theorem compO_F (fn : α → Option β) (xs : List α) : compO fn xs = compOF (fun _ => true) fn xs := by
  unfold compO compOF
  rw [List.filter_eq_self.mpr fun _ _ => rfl]
theorem compTF_F (p : α → Bool) (g : α → β) (xs : List α) : compTF p g xs = compOF p (fun x => some (g x)) xs := by
  unfold compTF compOF
  rw [mapO_some]
theorem compT_F (g : α → β) (xs : List α) : compT g xs = compOF (fun _ => true) (fun x => some (g x)) xs := by
  unfold compT compOF
  rw [mapO_some, List.filter_eq_self.mpr fun _ _ => rfl]
theorem oE_p (e : α → D) (xs : List α) : oE (pE e) xs = oL e xs := by show T.lst _ = T.lst _; rw [List.map_map]; rfl
end
end DL
set_option Elab.async false
set_option linter.all false
set_option maxRecDepth 100000
namespace DL
open PySem PySem.Spec PyProof.Rows L2
section
variable {env e e1 e2 e3 w : Env} {f fa fb fc fi fo fk fx : EF} {ra : AF} {c c2 test : CF} {G : GF} {it : IF} {A B F : SF} {Q : Fl → Env → Prop} {t u v : T} {ts us : List T} {d x y z : D} {ds es : List D} {i j k n : Nat} {a b m : Int} {p q : Nm} {α β κ σ ρ : Type}
theorem w_app {xs : List T} {ys : List T} (h0 : env[i]? = some (some (.lst xs))) (h : f env = some (t, e)) (h1 : e[i]? = some (some (.lst ys))) (hl : ys.length < 16000000) : sApp i f env = some (.nx, e.set i (some (.lst (ys ++ [t])))) := by
  rw [sApp_q, atL_q, h0, kAtL_q, bindS, kApp_q, h, bindS, kApp1_q, atL_q, h1, kAtL_q, bindS, kApp2_q, if_pos hl]
theorem w_appL {xs zs : List α} {dd : α → D} {x : α} (h0 : env[i]? = some (some (oL dd xs))) (h : f env = some (.p (dd x), e)) (h1 : e[i]? = some (some (oL dd xs))) (hp : push xs x = some zs) : sApp i f env = some (.nx, e.set i (some (oL dd zs))) := by
  unfold push at hp
  split at hp
  · rename_i c
    cases hp
    rw [w_app h0 h h1 (by rw [List.length_map, List.length_map]; exact c)]
    simp only [oL, List.map_append, List.map_cons, List.map_nil]
  · cases hp
theorem w_putL {xs zs : List α} {dd : α → D} {x : α} (h : f env = some (.p (dd x), e)) (h0 : e[i]? = some (some (oL dd xs))) (hj : fi e = some (.p (.int a), e1)) (h1 : e1[i]? = some (some (oL dd xs))) (hp : putI xs a x = some zs) : sPut i fi f env = some (.nx, e1.set i (some (oL dd zs))) := by
  obtain ⟨k, h2, rfl⟩ := omap hp
  rw [sPut_q, h, bindS, kPut_q, atL_q, h0, kAtL_q, bindS, kPut1_q, hj, bindS, kPut2_q, asI_q, bindS, kPut3_q, atL_q, h1, kAtL_q, bindS, kPut4_q, List.length_map, List.length_map, h2, mapS, kPutEnd_q]
  simp only [oL, List.map_set]
theorem p_nm (h : env[i]? = some (some t)) : pNm i env = some ([], env) := by unfold pNm; rw [h]
theorem at_nm (h : env[i]? = some (some t)) : atP env i [] = some t := by unfold atP; rw [h]; rfl
theorem put_nm (h : env[i]? = some (some t)) : putP env i [] u = env.set i (some u) := by rw [putP_eq h]; rfl
theorem w_appP {xs zs : List α} {dd : α → D} {x : α} (h0 : env[i]? = some (some (oL dd xs))) (h : f env = some (.p (dd x), e)) (h1 : e[i]? = some (some (oL dd xs))) (hp : push xs x = some zs) : sAppP i (pNm i) f env = some (.nx, e.set i (some (oL dd zs))) := by
  unfold push at hp
  split at hp
  · rename_i c
    cases hp
    unfold sAppP
    rw [p_nm h0]
    show (atP env i []).bind _ = _
    rw [at_nm h0]
    show (f env).bind _ = _
    rw [h]
    show (atP e i []).bind _ = _
    rw [at_nm h1]
    show (if ((xs.map dd).map T.p).length < 16000000 then some (Fl.nx, putP e i [] _) else none) = _
    rw [if_pos (by rw [List.length_map, List.length_map]; exact c), put_nm h1]
    show some (Fl.nx, e.set i (some (T.lst (((xs.map dd).map T.p) ++ [.p (dd x)])))) = _
    simp only [oL, List.map_append, List.map_cons, List.map_nil]
  · cases hp
section
variable [DecidableEq β] {kk : β → Key} {dd : α → D}
theorem val_lk (hk : ∀ a b, kk a = kk b → a = b) : ∀ (kv : List (β × α)) (k : β), valD (kv.map fun p => (kk p.1, dd p.2)) (kk k) = (lkN kv k).map dd
  | [], k => rfl
  | (j, x) :: r, k => by
    rw [List.map_cons, valD_cons, val_lk hk r k]
    unfold lkN
    by_cases c : j = k
    · subst c; simp
    · rw [if_neg fun h => c (hk _ _ h)]
      simp [c]
theorem any_lk (hk : ∀ a b, kk a = kk b → a = b) (kv : List (β × α)) (k : β) : ((kv.map fun p => (kk p.1, dd p.2)).any fun p => decide (p.1 = kk k)) = (kv.any fun p => decide (p.1 = k)) := by
  rw [List.any_map]
  congr 1
  funext p
  show decide (kk p.1 = kk k) = decide (p.1 = k)
  exact decide_eq_decide.mpr ⟨hk _ _, fun h => by rw [h]⟩
theorem put_lk (hk : ∀ a b, kk a = kk b → a = b) (kv : List (β × α)) (k : β) (x : α) : putD (kv.map fun p => (kk p.1, dd p.2)) (kk k) (dd x) = (putN kv k x).map fun p => (kk p.1, dd p.2) := by
  unfold putD putN
  rw [any_lk hk]
  split
  · rw [List.map_map, List.map_map]
    apply List.map_congr_left
    intro p _
    show (if kk p.1 = kk k then _ else _) = _
    by_cases c : p.1 = k
    · rw [if_pos (by rw [c])]; simp [c]
    · rw [if_neg fun h => c (hk _ _ h)]; simp [c]
  · rw [List.map_append]; rfl
theorem kS_inj : ∀ a b, kS a = kS b → a = b := fun a b h => sg_inj.mp (Sum.inr.inj h)
theorem dic_o (kv : List (β × α)) : dicT (oK kk dd kv) = some (kv.map fun p => (kk p.1, dd p.2)) := dicT_o
theorem e_dix (hk : ∀ a b, kk a = kk b → a = b) {kv : List (β × α)} {k : β} {x : α} (h1 : fo env = some (t, e1)) (hd : dicT t = some (kv.map fun p => (kk p.1, dd p.2))) (h2 : fi e1 = some (u, e2)) (h3 : keyT u = some (kk k)) (h : lkN kv k = some x) : eDix fo fi env = some (.p (dd x), e2) := by
  unfold eDix
  rw [h1]
  show (fi e1).bind _ = _
  rw [h2]
  show (dicT t).bind _ = _
  rw [hd]
  show (keyT u).bind _ = _
  rw [h3]
  show (valD _ _).map _ = _
  rw [val_lk hk, h]; rfl
theorem e_din (hk : ∀ a b, kk a = kk b → a = b) {b : Bool} {kv : List (β × α)} {k : β} (h2 : fi env = some (u, e1)) (h1 : fo e1 = some (t, e2)) (hd : dicT t = some (kv.map fun p => (kk p.1, dd p.2))) (h3 : keyT u = some (kk k)) : eDin b fi fo env = some (.p (.bl (if b then (lkN kv k).isSome else !(lkN kv k).isSome)), e2) := by
  unfold eDin
  rw [h2]
  show (fo e1).bind _ = _
  rw [h1]
  show (dicT t).bind _ = _
  rw [hd]
  show (keyT u).bind _ = _
  rw [h3]
  show some _ = _
  rw [val_lk hk]
  cases lkN kv k <;> rfl
theorem w_putD (hk : ∀ a b, kk a = kk b → a = b) {kv kv2 : List (β × α)} {k : β} {x : α} (h : f env = some (.p (dd x), e)) (h0 : e[i]? = some (some (oK kk dd kv))) (hj : fk e = some (u, e1)) (h3 : keyT u = some (kk k)) (h1 : e1[i]? = some (some (oK kk dd kv))) (hp : putK kv k x = some kv2) : sPutD i fk f env = some (.nx, e1.set i (some (oK kk dd kv2))) := by
  unfold putK at hp
  split at hp
  · rename_i c
    cases hp
    have g : ∀ e : Env, e[i]? = some (some (oK kk dd kv)) → atD e i = some (kv.map fun p => (kk p.1, dd p.2)) := fun e he => by rw [atD_q, he]; exact dic_o kv
    unfold sPutD
    rw [h]
    show (atD e i).bind _ = _
    rw [g e h0]
    show (fk e).bind _ = _
    rw [hj]
    show (keyT u).bind _ = _
    rw [h3]
    show (atD e1 i).bind _ = _
    rw [g e1 h1]
    show (if (kv.map fun p => (kk p.1, dd p.2)).length < 16000000 then _ else _) = _
    rw [if_pos (by rw [List.length_map]; exact c), put_lk hk]
  · cases hp
theorem keyS (p : Nm) : keyT (.p (eS p)) = some (kS p) := rfl
end
end
end DL
namespace DL
open PySem PySem.Spec PyProof.Rows L2
abbrev eD (d : D) : D := d
section
variable {env e e1 : Env} {f : EF} {t : T} {ts : List T} {d : D} {ds : List D} {i : Nat} {α β : Type}
theorem u_p (d : D) : (T.p d).toD = d := rfl
theorem u_n : T.toDs [] = [] := rfl
theorem eD_map (ds : List D) : ds.map T.p = (ds.map eD).map T.p := by rw [show (eD : D → D) = id from rfl, List.map_id]
theorem u_c (h : t.toD = d) (hs : T.toDs ts = ds) : T.toDs (t :: ts) = d :: ds := by show t.toD :: T.toDs ts = _; rw [h, hs]
theorem u_t (hs : T.toDs ts = ds) : (T.tup ts).toD = .tup ds := by show D.tup (T.toDs ts) = _; rw [hs]
theorem u_l (hs : T.toDs ts = ds) : (T.lst ts).toD = .lst ds := by show D.lst (T.toDs ts) = _; rw [hs]
theorem w_set2 {e' : Env} (h : f env = some (t, e)) (hi : Nat.ble (i + 1) e.length = true) (he : e.set i (some t) = e') : sSet i f env = some (.nx, e') := by rw [← he]; exact w_set h (Nat.le_of_ble_eq_true hi)
theorem e_compP {own : List Nat} {w : Env} {G : GF} {test : CF} {it : IF} {elt : EF} {dd : α → D} {E : β → D} {p : α → Bool} {fn : α → Option β} {xs : List α} {ys : List β} (hi : it env = some (xs.map dd, e)) (hw : wipeE e own = w) (h : compOF p fn xs = some ys)
    (hb : ∀ x, ∃ e1, G (.p (dd x)) w = some e1 ∧ ∃ e2, test e1 = some (p x, e2) ∧ (p x = false → wipeE e2 own = w) ∧ ∀ y, p x = true → fn x = some y → ∃ e3, elt e2 = some (.p (E y), e3) ∧ wipeE e3 own = w) :
    eComp own it G test elt env = some (oL E ys, w) := by
  rw [← oE_p]
  exact e_comp (E := pE E) hi hw h hb
end
def joinN (s : Nm) (ls : List Nm) : Option Nm := if (ls.map (·.length)).sum + ls.length * s.length ≤ 16777216 then some (TL.joinL s ls) else none
section
variable {env e e1 e2 w : Env} {f fa fb fo fe : EF} {t u : T} {A : SF} {Q : Fl → Env → Prop} {α β : Type} {p q r : Nm} {a : Int}
theorem w_un (h : Wp (A env) Q) : Wp (sSeq A sNx env) Q := by unfold Wp at *; rw [seq_one]; exact h
theorem ifs {τ : Type} {v : Bool} {n1 n2 : Option τ} {r : τ} {P : Prop} (h : (if v = true then n1 else n2) = some r) (h1 : v = true → n1 = some r → P) (h2 : v = false → n2 = some r → P) : P := by
  cases v with
  | true => exact h1 rfl h
  | false => exact h2 rfl h
def mapG (f : α → Option (Option β)) : List α → Option (List β)
  | [] => some []
  | x :: xs => (f x).bind fun o => match o with
    | none => mapG f xs
    | some y => (mapG f xs).map (y :: ·)
def compG (f : α → Option (Option β)) (xs : List α) : Option (List β) := if xs.length ≤ 1000000 then mapG f xs else none
theorem compG_go {own : List Nat} {G : GF} {test : CF} {elt : EF} {dd : α → D} {E : β → T} {fn : α → Option (Option β)}
    (hb : ∀ x o, fn x = some o → ∃ e1, G (.p (dd x)) w = some e1 ∧ ∃ b e2, test e1 = some (b, e2) ∧ ((b = false ∧ o = none ∧ wipeE e2 own = w) ∨ (b = true ∧ ∃ y, o = some y ∧ ∃ e3, elt e2 = some (E y, e3) ∧ wipeE e3 own = w))) :
    ∀ (xs : List α) (ys : List β), mapG fn xs = some ys → compD own G test elt (xs.map dd) w = some (ys.map E, w)
  | [], ys, h => by cases h; rfl
  | x :: xs, ys, h => by
    obtain ⟨o, k1, k2⟩ := obind h
    obtain ⟨e1, h1, b, e2, h2, h3⟩ := hb x o k1
    rw [List.map_cons, comp_c, h1, bindS, kCp1_q, h2, bindS]
    rcases h3 with ⟨rfl, rfl, h3⟩ | ⟨rfl, y, rfl, e3, h3, h4⟩
    · rw [kCp2_f, h3]
      exact compG_go hb xs ys k2
    · obtain ⟨zs, k3, rfl⟩ := omap k2
      rw [kCp2_t, h3, bindS, kCp3_q, h4, compG_go hb xs zs k3, mapS, kCp4_q]; rfl
theorem e_compG {own : List Nat} {G : GF} {test : CF} {it : IF} {elt : EF} {dd : α → D} {E : β → T} {fn : α → Option (Option β)} {xs : List α} {ys : List β} (hi : it env = some (xs.map dd, e)) (hw : wipeE e own = w) (h : compG fn xs = some ys)
    (hb : ∀ x o, fn x = some o → ∃ e1, G (.p (dd x)) w = some e1 ∧ ∃ b e2, test e1 = some (b, e2) ∧ ((b = false ∧ o = none ∧ wipeE e2 own = w) ∨ (b = true ∧ ∃ y, o = some y ∧ ∃ e3, elt e2 = some (E y, e3) ∧ wipeE e3 own = w))) :
    eComp own it G test elt env = some (oE E ys, w) := by
  unfold compG at h
  split at h
  · rename_i c
    rw [eComp_q, hi, bindS, kComp_q, if_pos (by rw [List.length_map]; exact c), hw, compG_go hb xs ys h]; rfl
  · cases h
theorem e_compGP {own : List Nat} {G : GF} {test : CF} {it : IF} {elt : EF} {dd : α → D} {E : β → D} {fn : α → Option (Option β)} {xs : List α} {ys : List β} (hi : it env = some (xs.map dd, e)) (hw : wipeE e own = w) (h : compG fn xs = some ys)
    (hb : ∀ x o, fn x = some o → ∃ e1, G (.p (dd x)) w = some e1 ∧ ∃ b e2, test e1 = some (b, e2) ∧ ((b = false ∧ o = none ∧ wipeE e2 own = w) ∨ (b = true ∧ ∃ y, o = some y ∧ ∃ e3, elt e2 = some (.p (E y), e3) ∧ wipeE e3 own = w))) :
    eComp own it G test elt env = some (oL E ys, w) := by
  rw [← oE_p]
  exact e_compG (E := pE E) hi hw h hb
def opq (o : Option T) : Option D := match o with
  | some (.p d) => some d
  | _ => none
def asB : D → Option Bool
  | .bl b => some b
  | _ => none
def asN : D → Option Int
  | .int b => some b
  | _ => none
theorem opq_p {o : Option T} {d : D} (h : opq o = some d) : o = some (.p d) := by
  unfold opq at h
  split at h
  · cases h; rfl
  · cases h
def opB (o : Option T) : Option Bool := (opq o).bind asB
theorem opq_B {o : Option T} {b : Bool} (h : opB o = some b) : o = some (.p (.bl b)) := by
  obtain ⟨d, h1, h2⟩ := obind h
  unfold asB at h2
  split at h2
  · cases h2; exact opq_p h1
  · cases h2
def asIntD (d : D) : Option Int := asN d
theorem strs_map : ∀ ls : List Nm, strsD (ls.map eS) = some (ls.map sg)
  | [] => rfl
  | l :: ls => by show (strsD (ls.map eS)).map _ = _; rw [strs_map ls]; rfl
theorem e_join {ls : List Nm} (h1 : fo env = some (.p (eS p), e1)) (h2 : fe e1 = some (t, e2)) (hi : itemsT t = some (ls.map eS)) (h : joinN p ls = some q) : eJoin fo fe env = some (.p (eS q), e2) := by
  unfold joinN at h
  split at h
  · rename_i c
    cases h
    unfold eJoin
    rw [h1]
    show (fe e1).bind _ = _
    rw [h2]
    show (itemsT t).bind _ = _
    rw [hi]
    show (strsD (ls.map eS)).bind _ = _
    rw [strs_map]
    show (if ((ls.map sg).map (·.length)).sum + (ls.map sg).length * (sg p).length ≤ 16777216 then _ else _) = _
    have e1 : (ls.map sg).map (·.length) = ls.map (·.length) := by
      rw [List.map_map]
      apply List.map_congr_left
      intro l _
      exact sg_len l
    rw [e1, List.length_map, sg_len, if_pos c, join_g]
  · cases h
def splitN (a b : Nm) : Option (List Nm) := if (b.length == 0) = false ∧ a.length + 2 ≤ 16777216 then some ((Txt.split (sg a) (sg b)).map fun s => s.cps.toList) else none
theorem e_split {zs : List Nm} (h1 : fo env = some (.p (eS p), e1)) (h2 : fe e1 = some (.p (eS q), e2)) (h : splitN p q = some zs) : eSplit fo fe env = some (oL eS zs, e2) := by
  unfold splitN at h
  split at h
  · rename_i c
    cases h
    unfold eSplit
    rw [h1]
    show (fe e1).bind _ = _
    rw [h2]
    show (if ((sg q).length == 0) = false ∧ (sg p).length + 2 ≤ 16777216 then _ else _) = _
    rw [sg_len, sg_len, if_pos c]
    have hm : ((Txt.split (sg p) (sg q)).map fun s => s.cps.toList).map eS = (Txt.split (sg p) (sg q)).map D.str := by
      rw [List.map_map]
      apply List.map_congr_left
      intro s _
      show D.str (sg s.cps.toList) = D.str s
      rw [sg_eta]
    simp only [oL, hm]
  · cases h
end
section
variable {env e e1 e2 e' : Env} {f fi fk : EF} {t u : T} {i : Nat} {a y : Int} {α β : Type}
theorem w_appL2 {xs zs : List α} {dd : α → D} {x : α} (h0 : env[i]? = some (some (oL dd xs))) (h : f env = some (.p (dd x), e)) (h1 : e[i]? = some (some (oL dd xs))) (hp : push xs x = some zs) (he : e.set i (some (oL dd zs)) = e') : sApp i f env = some (.nx, e') := he ▸ w_appL h0 h h1 hp
theorem w_appP2 {xs zs : List α} {dd : α → D} {x : α} (h0 : env[i]? = some (some (oL dd xs))) (h : f env = some (.p (dd x), e)) (h1 : e[i]? = some (some (oL dd xs))) (hp : push xs x = some zs) (he : e.set i (some (oL dd zs)) = e') : sAppP i (pNm i) f env = some (.nx, e') := he ▸ w_appP h0 h h1 hp
theorem w_putL2 {xs zs : List α} {dd : α → D} {x : α} (h : f env = some (.p (dd x), e)) (h0 : e[i]? = some (some (oL dd xs))) (hj : fi e = some (.p (.int a), e1)) (h1 : e1[i]? = some (some (oL dd xs))) (hp : putI xs a x = some zs) (he : e1.set i (some (oL dd zs)) = e') : sPut i fi f env = some (.nx, e') := he ▸ w_putL h h0 hj h1 hp
theorem w_putD2 [DecidableEq β] {kk : β → Key} {dd : α → D} (hk : ∀ a b, kk a = kk b → a = b) {kv kv2 : List (β × α)} {k : β} {x : α} (h : f env = some (.p (dd x), e)) (h0 : e[i]? = some (some (oK kk dd kv))) (hj : fk e = some (u, e1)) (h3 : keyT u = some (kk k)) (h1 : e1[i]? = some (some (oK kk dd kv))) (hp : putK kv k x = some kv2) (he : e1.set i (some (oK kk dd kv2)) = e') : sPutD i fk f env = some (.nx, e') := he ▸ w_putD hk h h0 hj h3 h1 hp
end
end DL
set_option Elab.async false
set_option linter.all false
set_option maxRecDepth 100000
namespace DL
open PySem PySem.Spec PyProof.Rows L2
section
variable {env e e1 e2 e3 e' : Env} {f fa fb fc fi fo fk fx : EF} {ra : AF} {po : PF} {P : List Stp} {G : GF} {F : SF} {t u v : T} {ts us : List T} {d x y z : D} {ds es : List D} {i j n : Nat} {a b m : Int} {α β κ : Type}
theorem cd_i : cleanD (.int a) = true := rfl
theorem cd_s {s : Str} : cleanD (.str s) = true := rfl
theorem cds_n : cleanDs [] = true := rfl
theorem cds_c (h : cleanD d = true) (h2 : cleanDs ds = true) : cleanDs (d :: ds) = true := by unfold cleanDs; rw [h, h2]; rfl
theorem cd_t (h : cleanDs ds = true) : cleanD (.tup ds) = true := h
theorem cd_q {dd : α → D} (h : ∀ x, cleanD (dd x) = true) : ∀ xs : List α, cleanD (eSq dd xs) = true := fun xs => cd_t (by
  induction xs with
  | nil => exact cds_n
  | cons x xs ih => exact cds_c (h x) ih)
theorem cv_p (h : cleanD d = true) : cleanV (.p d) = true := by unfold cleanV; exact h
theorem cvs_n : cleanVs [] = true := rfl
theorem cvs_c (h : cleanV t = true) (h2 : cleanVs ts = true) : cleanVs (t :: ts) = true := by unfold cleanVs; rw [h, h2]; rfl
theorem cv_l (h : cleanVs ts = true) : cleanV (.lst ts) = true := by unfold cleanV; exact h
theorem cv_t (h : cleanVs ts = true) : cleanV (.tup ts) = true := by unfold cleanV; exact h
theorem cv_o {dd : α → D} (h : ∀ x, cleanD (dd x) = true) : ∀ xs : List α, cleanV (oL dd xs) = true := fun xs => cv_l (by
  induction xs with
  | nil => exact cvs_n
  | cons x xs ih => exact cvs_c (cv_p (h x)) ih)
theorem pl_nm (h : env[i]? = some (some t)) : pNm i env = some ([], env) := by unfold pNm; rw [h]
theorem p_it {k : Nat} (h : po env = some (P, e)) (h2 : fk e = some (.p (.int a), e1)) (h3 : atP e1 i P = some (.tup us)) (hk : ixN us.length a = some k) (h4 : us[k]? = some t) : pIx i po fk env = some (P ++ [.it k], e1) := by
  unfold pIx
  rw [h]
  show (fk e).bind _ = _
  rw [h2]
  show (atP e1 i P).bind _ = _
  rw [h3]
  show (ixN us.length a).bind _ = _
  rw [hk]
  show (us[k]?).map _ = _
  rw [h4]; rfl
theorem w_apL {xs zs : List α} {dd : α → D} {x : α} (hp : po env = some (P, env)) (h0 : atP env i P = some (oL dd xs)) (h : f env = some (.p (dd x), e)) (h1 : atP e i P = some (oL dd xs)) (hq : push xs x = some zs) (he : putP e i P (oL dd zs) = e') : sAppP i po f env = some (.nx, e') := by
  subst he
  unfold push at hq
  split at hq
  · rename_i c
    cases hq
    unfold sAppP
    rw [hp]
    show (atP env i P).bind _ = _
    rw [h0]
    show (f env).bind _ = _
    rw [h]
    show (atP e i P).bind _ = _
    rw [h1]
    show (if ((xs.map dd).map T.p).length < 16000000 then some (Fl.nx, putP e i P (T.lst ((xs.map dd).map T.p ++ [T.p (dd x)]))) else none) = _
    rw [if_pos (by simpa using c)]
    show _ = some (Fl.nx, putP e i P (T.lst (((xs ++ [x]).map dd).map T.p)))
    rw [List.map_append, List.map_append]; rfl
  · cases hq
end
end DL
set_option Elab.async false
set_option linter.all false
set_option maxRecDepth 100000
namespace DL
open PySem PySem.Spec PyProof.Rows L2
section
variable {env e e1 e2 e3 e' : Env} {f fa fb fc fi fo fk fx fe : EF} {ra : AF} {po : PF} {P : List Stp} {G : GF} {F : SF} {t t1 t2 u v r : T} {ts us : List T} {d x y z : D} {ds es : List D} {i j n : Nat} {a b m : Int} {α β κ : Type} {nm fn : Str} {fs : List (Str × T)} {kvs : List (Key × T)} {ky : Key}
def zip3N {α β γ : Type} : List α → List β → List γ → List (α × β × γ)
  | a :: as, b :: bs, c :: cs => (a, b, c) :: zip3N as bs cs
  | _, _, _ => []
theorem w_exT {xs ys zs : List α} {dd : α → D} (hp : po env = some (P, env)) (h0 : atP env i P = some (oL dd xs)) (h : f env = some (.p (eSq dd ys), e)) (h1 : atP e i P = some (oL dd xs)) (hq : extL xs ys = some zs) (he : putP e i P (oL dd zs) = e') : sExtT i po f env = some (.nx, e') := by
  subst he
  unfold extL at hq
  split at hq
  · rename_i c
    cases hq
    unfold sExtT
    rw [hp]
    show (atP env i P).bind _ = _
    rw [h0]
    show (f env).bind _ = _
    rw [h]
    show (atP e i P).bind _ = _
    rw [h1]
    show (if ((xs.map dd).map T.p).length + (ys.map dd).length < 16000000 then some (Fl.nx, putP e i P (T.lst ((xs.map dd).map T.p ++ (ys.map dd).map T.p))) else none) = _
    rw [if_pos (by simpa using c)]
    show _ = some (Fl.nx, putP e i P (T.lst (((xs ++ ys).map dd).map T.p)))
    rw [List.map_append, List.map_append]
  · cases hq
def asSN : D → Option Nm
  | .str s => some s.cps.toList
  | _ => none
theorem asS_eq {l : Nm} (h : asSN d = some l) : d = eS l := by
  cases d <;> cases h
  rfl
theorem e_asS {l : Nm} (h : f env = some (.p d, e)) (h2 : asSN d = some l) : f env = some (.p (eS l), e) := by rw [h, asS_eq h2]
def asSs : List D → Option (List Nm)
  | [] => some []
  | d :: ds => (asSN d).bind fun l => (asSs ds).map (l :: ·)
theorem asSs_eq : ∀ {ds : List D} {ls : List Nm}, asSs ds = some ls → ds = ls.map eS
  | [], _, h => by cases h; rfl
  | d :: ds, _, h => by
    obtain ⟨l, h1, h2⟩ := obind (show (asSN d).bind _ = _ from h)
    obtain ⟨ls, h3, h4⟩ := omap h2
    subst h4
    rw [asS_eq h1, asSs_eq h3]; rfl
def asQS : D → Option (List Nm)
  | .tup ds => asSs ds
  | _ => none
theorem e_asQ {l : List Nm} (h : f env = some (.p d, e)) (h2 : asQS d = some l) : f env = some (.p (eSq eS l), e) := by
  cases d with
  | tup ds => rw [h, asSs_eq (show asSs ds = some l from h2)]
  | _ => cases h2
def chkV (t : T) : Option Int := if cleanV t = true then some 0 else none
theorem w_appLD2 {xs : List α} {zs : List D} {dd : α → D} {y : D} (h0 : env[i]? = some (some (oL dd xs))) (h : f env = some (.p y, e)) (h1 : e[i]? = some (some (oL dd xs))) (hq : push (xs.map dd) y = some zs) (he : e.set i (some (oL eD zs)) = e') : sApp i f env = some (.nx, e') := by
  have go : ∀ l : List α, (oL dd l : T) = oL eD (l.map dd) := fun l => by show T.lst ((l.map dd).map T.p) = T.lst (((l.map dd).map eD).map T.p); exact congrArg T.lst (eD_map _)
  exact w_appL2 (dd := eD) (by rw [h0, go]) h (by rw [h1, go]) hq he
abbrev oG (kk : β → List Key) (dd : α → D) (kv : List (β × α)) : T := .dit (pairsTt (kv.map fun p => (kk p.1, dd p.2)))
abbrev eG (kk : β → List Key) (dd : α → D) (kv : List (β × α)) : D := .dit (kv.map fun p => (kk p.1, dd p.2))
section
variable [DecidableEq β] {kk : β → List Key} {dd : α → D}
end
abbrev kSS (p : Nm × Nm) : List Key := [.inr (sg p.1), .inr (sg p.2)]
def ixNm (xs : List Nm) (s : Nm) : Option Int := (ixQ xs s).map Int.ofNat
end
end DL
set_option Elab.async false
set_option linter.all false
set_option maxRecDepth 100000
namespace DL
open PySem PySem.Spec PyProof.Rows L2
def Ok {α : Type} (o : Option α) (Q : α → Prop) : Prop := ∃ v, o = some v ∧ Q v
section
variable {α β σ ρ κ : Type} {o : Option α} {P Q : α → Prop}
theorem ok_some {v : α} (h : Q v) : Ok (some v) Q := ⟨v, rfl, h⟩
theorem ok_bind {k : α → Option β} {R : β → Prop} (h : Ok o Q) (g : ∀ v, Q v → Ok (k v) R) : Ok (o.bind k) R := by
  obtain ⟨v, rfl, q⟩ := h
  exact g v q
theorem ok_eq {k : α → Option β} {R : β → Prop} {v : α} (h : o = some v) (g : Ok (k v) R) : Ok (o.bind k) R := by subst h; exact g
theorem ok_imp (h : Ok o P) (g : ∀ v, P v → Q v) : Ok o Q := by
  obtain ⟨v, h1, h2⟩ := h
  exact ⟨v, h1, g v h2⟩
theorem ok_ite {b : Bool} {x y : Option α} (h1 : b = true → Ok x Q) (h2 : b = false → Ok y Q) : Ok (if b = true then x else y) Q := by
  cases b with
  | true => exact h1 rfl
  | false => exact h2 rfl
theorem ok_dite {p : Prop} [Decidable p] {x y : Option α} (h1 : p → Ok x Q) (h2 : ¬ p → Ok y Q) : Ok (if decide p = true then x else y) Q := by
  by_cases c : p
  · rw [if_pos (decide_eq_true c)]; exact h1 c
  · rw [if_neg (by simp [c])]; exact h2 c
theorem ok_fin {o : Option α} {v : α} (h : Ok o (· = v)) : o = some v := by
  obtain ⟨w, h1, rfl⟩ := h
  exact h1
theorem ok_of {o : Option α} {v : α} (h : o = some v) (q : Q v) : Ok o Q := ⟨v, h, q⟩
theorem ok_fold {f : α → σ → Option σ} (I : List α → σ → Prop) : ∀ (xs done : List α) (s : σ), I done s → (∀ pre x post s, done ++ xs = pre ++ x :: post → I pre s → Ok (f x s) (I (pre ++ [x]))) → Ok (fold f xs s) (I (done ++ xs))
  | [], done, s, h0, _ => by rw [List.append_nil]; exact ok_some h0
  | x :: xs, done, s, h0, hs => by
    refine ok_bind (hs done x xs s rfl h0) fun v hv => ?_
    have := ok_fold I xs (done ++ [x]) v hv (fun pre y post s e => hs pre y post s (by rw [← e, List.append_assoc]; rfl))
    rw [List.append_assoc] at this
    exact this
theorem ok_fold0 {f : α → σ → Option σ} (I : List α → σ → Prop) {xs : List α} {s : σ} (h0 : I [] s) (hs : ∀ pre x post s, xs = pre ++ x :: post → I pre s → Ok (f x s) (I (pre ++ [x]))) : Ok (fold f xs s) (I xs) := by
  have := ok_fold I xs [] s h0 hs
  exact this
theorem enumN_len : ∀ (k : Nat) (xs : List α), (enumN k xs).length = xs.length
  | _, [] => rfl
  | k, x :: xs => by rw [enumN, List.length_cons, List.length_cons, enumN_len (k + 1) xs]
theorem enumN_mem : ∀ {k : Nat} {xs : List α} {p : Int × α}, p ∈ enumN k xs → (k : Int) ≤ p.1 ∧ p.1 < (k : Int) + xs.length ∧ p.2 ∈ xs
  | _, [], p, h => by cases h
  | k, x :: xs, p, h => by
    rw [enumN] at h
    rcases List.mem_cons.mp h with rfl | h
    · exact ⟨Int.le_refl _, by rw [List.length_cons]; omega, by simp⟩
    · obtain ⟨h1, h2, h3⟩ := enumN_mem h
      refine ⟨by omega, ?_, by simp [h3]⟩
      rw [List.length_cons]; omega
theorem enumN_snd : ∀ (k : Nat) (xs : List α), (enumN k xs).map (·.2) = xs
  | _, [] => rfl
  | k, x :: xs => by rw [enumN, List.map_cons, enumN_snd (k + 1) xs]
theorem rngN_len (lo : Int) (n : Nat) : (rngN lo n).length = n := by simp [rngN]
theorem rngN_mem {lo : Int} {n : Nat} {i : Int} (h : i ∈ rngN lo n) : lo ≤ i ∧ i < lo + n := by
  unfold rngN at h
  obtain ⟨k, hk, rfl⟩ := List.mem_map.mp h
  have := List.mem_range.mp hk
  omega
theorem push_eq {xs : List α} {x : α} (h : xs.length < 16000000) : push xs x = some (xs ++ [x]) := if_pos h
theorem catL_eq {xs ys : List α} (h : xs.length + ys.length ≤ 16777216) : catL xs ys = some (xs ++ ys) := if_pos h
theorem extL_eq {xs ys : List α} (h : xs.length + ys.length < 16000000) : extL xs ys = some (xs ++ ys) := if_pos h
theorem compT_eq {f : α → β} {xs : List α} (h : xs.length ≤ 1000000) : compT f xs = some (xs.map f) := if_pos h
theorem compTF_eq {p : α → Bool} {f : α → β} {xs : List α} (h : xs.length ≤ 1000000) : compTF p f xs = some ((xs.filter p).map f) := if_pos h
theorem mapO_eq {f : α → Option β} {g : α → β} : ∀ {xs : List α}, (∀ x ∈ xs, f x = some (g x)) → mapO f xs = some (xs.map g)
  | [], _ => rfl
  | x :: xs, h => by
    show (f x).bind _ = _
    rw [h x (by simp)]
    show (mapO f xs).map _ = _
    rw [mapO_eq fun y hy => h y (by simp [hy])]; rfl
theorem compO_eq {f : α → Option β} {g : α → β} {xs : List α} (hl : xs.length ≤ 1000000) (h : ∀ x ∈ xs, f x = some (g x)) : compO f xs = some (xs.map g) := by unfold compO; rw [if_pos hl, mapO_eq h]
theorem mapG_eq {f : α → Option (Option β)} {p : α → Bool} {g : α → β} : ∀ {xs : List α}, (∀ x ∈ xs, f x = some (if p x = true then some (g x) else none)) → mapG f xs = some ((xs.filter p).map g)
  | [], _ => rfl
  | x :: xs, h => by
    show (f x).bind _ = _
    rw [h x (by simp)]
    have ih := mapG_eq fun y hy => h y (List.mem_cons_of_mem x hy)
    cases hp : p x with
    | true =>
      show (mapG f xs).map _ = _
      rw [ih, List.filter_cons_of_pos hp]; rfl
    | false =>
      show mapG f xs = _
      rw [ih, List.filter_cons_of_neg (by rw [hp]; simp)]
theorem compG_eq {f : α → Option (Option β)} {p : α → Bool} {g : α → β} {xs : List α} (hl : xs.length ≤ 1000000) (h : ∀ x ∈ xs, f x = some (if p x = true then some (g x) else none)) : compG f xs = some ((xs.filter p).map g) := by unfold compG; rw [if_pos hl, mapG_eq h]
theorem ok_mapO {f : α → Option β} {R : α → β → Prop} : ∀ {xs : List α}, (∀ x ∈ xs, Ok (f x) (R x)) → Ok (mapO f xs) fun ys => ys.length = xs.length ∧ ∀ y ∈ ys, ∃ x ∈ xs, R x y
  | [], _ => ok_some ⟨rfl, by simp⟩
  | x :: xs, h => by
    refine ok_bind (h x (by simp)) fun y hy => ?_
    obtain ⟨ys, h1, h2, h3⟩ := ok_mapO fun z hz => h z (List.mem_cons_of_mem x hz)
    rw [h1]
    refine ok_some ⟨by simp [h2], fun z hz => ?_⟩
    rcases List.mem_cons.mp hz with rfl | hz
    · exact ⟨x, by simp, hy⟩
    · obtain ⟨w, hw, r⟩ := h3 z hz
      exact ⟨w, by simp [hw], r⟩
theorem ok_compO {f : α → Option β} {R : α → β → Prop} {xs : List α} (hl : xs.length ≤ 1000000) (h : ∀ x ∈ xs, Ok (f x) (R x)) : Ok (compO f xs) fun ys => ys.length = xs.length ∧ ∀ y ∈ ys, ∃ x ∈ xs, R x y := by unfold compO; rw [if_pos hl]; exact ok_mapO h
theorem ok_atI {xs : List α} {i : Int} {R : α → Prop} (h0 : 0 ≤ i) (h1 : i < xs.length) (h : ∀ x ∈ xs, R x) : Ok (atI xs i) R := by
  obtain ⟨x, hx, e, _⟩ := atI_in h0 h1
  exact ⟨x, e, h x hx⟩
theorem rng1_eq {b : Int} (h0 : -4611686018427387904 ≤ b) (h1 : b < 4611686018427387904) : rng1 b = some (rngN 0 b.toNat) := if_pos ⟨h1, h0⟩
theorem mulN_l {a b : Int} (h : -18446744073709551616 < a ∧ a < 18446744073709551616) : mulN a b = some (a * b) := if_pos (by unfold mulOk; exact decide_eq_true (.inl h))
theorem mulN_r {a b : Int} (h : -18446744073709551616 < b ∧ b < 18446744073709551616) : mulN a b = some (a * b) := if_pos (by unfold mulOk; exact decide_eq_true (.inr (.inl h)))
theorem modN_eq {a b : Int} (h : 0 < b) : modN a b = some (a % b) := if_pos (by unfold modOk; exact decide_eq_true h)
theorem divN_eq {a b : Int} (h : 0 < b) (h1 : b < 1606938044258990275541962092341162602522202993782792835301376) : divN a b = some (a / b) := if_pos (by unfold divOk; exact decide_eq_true ⟨h, h1⟩)
theorem ok_mod {a b : Int} (h : 0 < b) : Ok (modN a b) fun x => 0 ≤ x ∧ x < b := ⟨_, modN_eq h, Int.emod_nonneg _ (by omega), Int.emod_lt_of_pos _ h⟩
theorem catS_eq {a b : Nm} (h : a.length + b.length ≤ 16777216) : catS a b = some (a ++ b) := if_pos h
theorem bits_small {x : Int} (h0 : 0 ≤ x) (h1 : x < 1606938044258990275541962092341162602522202993782792835301376) : Builtin.Int.intBits x ≤ 1048576 := by
  unfold Builtin.Int.intBits
  by_cases z : x = 0
  · subst z; decide
  · have hb : (x == 0) = false := by simpa using z
    rw [hb]
    have hn : x.natAbs ≠ 0 := by omega
    have : x.natAbs.log2 < 200 := (Nat.log2_lt hn).mpr (by
      have e : (2 : Nat) ^ 200 = 1606938044258990275541962092341162602522202993782792835301376 := by decide
      rw [e]; omega)
    show x.natAbs.log2 + 1 ≤ 1048576
    omega
theorem mulN_b {a b : Int} (h0 : 0 ≤ a) (h1 : a < 1606938044258990275541962092341162602522202993782792835301376) (h2 : 0 ≤ b) (h3 : b < 1606938044258990275541962092341162602522202993782792835301376) : mulN a b = some (a * b) := if_pos (by
  unfold mulOk
  have := bits_small h0 h1
  have := bits_small h2 h3
  exact decide_eq_true (.inr (.inr (by omega))))
variable [DecidableEq κ]
theorem lk_nil (k : κ) : lkN ([] : List (κ × α)) k = none := rfl
theorem lk_cons (j k : κ) (x : α) (r : List (κ × α)) : lkN ((j, x) :: r) k = if j = k then some x else lkN r k := by
  unfold lkN
  by_cases c : j = k
  · subst c; simp
  · simp [c]
theorem lk_app (k : κ) : ∀ (r q : List (κ × α)), lkN (r ++ q) k = (lkN r k).or (lkN q k)
  | [], q => by rw [lk_nil]; rfl
  | (j, x) :: r, q => by
    rw [List.cons_append, lk_cons, lk_cons, lk_app k r q]
    split <;> rfl
theorem lk_any (k : κ) : ∀ r : List (κ × α), (r.any fun p => decide (p.1 = k)) = (lkN r k).isSome
  | [] => rfl
  | (j, x) :: r => by
    rw [List.any_cons, lk_cons, lk_any k r]
    by_cases c : j = k <;> simp [c]
theorem lk_map (k j : κ) (x : α) : ∀ r : List (κ × α), lkN (r.map fun p => if p.1 = j then (p.1, x) else p) k = if k = j then (lkN r k).map (fun _ => x) else lkN r k
  | [] => by rw [List.map_nil, lk_nil]; split <;> rfl
  | (i, y) :: r => by
    rw [List.map_cons]
    by_cases c : i = j
    · subst c
      rw [if_pos rfl, lk_cons, lk_cons, lk_map k i x r]
      by_cases d : i = k
      · subst d; simp
      · have d2 : ¬ k = i := fun e => d e.symm
        simp [d, d2]
    · rw [if_neg c, lk_cons, lk_cons, lk_map k j x r]
      by_cases d : i = k
      · subst d; rw [if_pos rfl, if_pos rfl, if_neg c]
      · rw [if_neg d, if_neg d]
theorem lk_put (kv : List (κ × α)) (j k : κ) (x : α) : lkN (putN kv j x) k = if k = j then some x else lkN kv k := by
  unfold putN
  rw [lk_any]
  cases h : lkN kv j with
  | some y =>
    rw [Option.isSome_some, if_pos rfl, lk_map]
    by_cases c : k = j
    · subst c; rw [if_pos rfl, if_pos rfl, h]; rfl
    · rw [if_neg c, if_neg c]
  | none =>
    rw [Option.isSome_none, if_neg (by simp), lk_app, lk_cons, lk_nil]
    by_cases c : k = j
    · subst c; rw [h, if_pos rfl]; simp
    · rw [if_neg c, if_neg (fun e => c e.symm)]; cases lkN kv k <;> rfl
theorem lk_of {k : κ} {x : α} : ∀ {r : List (κ × α)}, (r.map (·.1)).Nodup → (k, x) ∈ r → lkN r k = some x
  | [], _, h => by cases h
  | (j, y) :: r, hn, h => by
    rw [List.map_cons, List.nodup_cons] at hn
    rw [lk_cons]
    rcases List.mem_cons.mp h with e | h
    · cases e; rw [if_pos rfl]
    · rw [if_neg, lk_of hn.2 h]
      rintro rfl
      exact hn.1 (List.mem_map.mpr ⟨_, h, rfl⟩)
end
end DL
set_option Elab.async false
set_option linter.all false
set_option maxRecDepth 100000
set_option maxHeartbeats 4000000
namespace LQ
open PySem PySem.Spec PyProof.Rows L2 DL 
def F_law_whole : SF :=
  (sRet (eAnd (eIsi "int" (eB 0)) (eNot (eIsi "bool" (eB 0)))))
def phi_law_whole : List D → Option T := runF 1 1 F_law_whole
def F_law_plain (φ : List D → Option T) : SF :=
  (sSeq (sIf (cT (eIsi2 "list" "tuple" (eB 0))) (sRet (eB1 gAll (eComp [1] (iSq (eV 0)) (gNm 1) cYes (eCall φ (aC (eV 1) aN))))) sNx)
  (sRet (eOr (eIsi "str" (eB 0)) (eCall phi_law_whole (aC (eV 0) aN)))))
def phi_law_plain : Nat → List D → Option T
  | 0 => fun _ => none
  | n + 1 => runF 2 1 (F_law_plain (phi_law_plain n))
end LQ
set_option Elab.async false
set_option linter.all false
set_option maxRecDepth 100000
set_option maxHeartbeats 1000000
namespace LQ
open PySem PySem.Spec PyProof.Rows L2 DL
mutual
def pOk : Nat → D → Bool
  | _, .int _ => true
  | _, .str _ => true
  | n + 1, .lst ds => decide (ds.length ≤ 1000000) && pOks n ds
  | n + 1, .tup ds => decide (ds.length ≤ 1000000) && pOks n ds
  | _, _ => false
def pOks : Nat → List D → Bool
  | _, [] => true
  | n, d :: ds => pOk n d && pOks n ds
end
theorem k1 : kitB "int" "list" = some false := by decide +kernel
theorem k2 : kitB "int" "tuple" = some false := by decide +kernel
theorem k3 : kitB "str" "list" = some false := by decide +kernel
theorem k4 : kitB "str" "tuple" = some false := by decide +kernel
theorem pOk_int {n : Nat} {i : Int} : pOk n (.int i) = true := by unfold pOk; rfl
end LQ
set_option Elab.async false
set_option linter.all false
set_option maxRecDepth 100000
namespace DL
open PySem PySem.Spec PyProof.Rows L2
def Sok (w : Nm) : Prop := ∀ c ∈ w, c < 1114112
theorem dS {n : Nat} {w : Nm} (h : Sok w) : dOk n (eS w) = true := dOk_sg h
theorem dL {n : Nat} {α : Type} {e : α → D} {xs : List α} (h : ∀ x ∈ xs, dOk n (e x) = true) : dOk (n + 1) (eLs e xs) = true := dOk_lst fun d hd => by obtain ⟨x, hx, rfl⟩ := List.mem_map.mp hd; exact h x hx
theorem dQ {n : Nat} {α : Type} {e : α → D} {xs : List α} (h : ∀ x ∈ xs, dOk n (e x) = true) : dOk (n + 1) (eSq e xs) = true := dOk_tup fun d hd => by obtain ⟨x, hx, rfl⟩ := List.mem_map.mp hd; exact h x hx
theorem dT2 {n : Nat} {a b : D} (h1 : dOk n a = true) (h2 : dOk n b = true) : dOk (n + 1) (.tup [a, b]) = true := dOk_tup fun d hd => by
  simp only [List.mem_cons, List.not_mem_nil, or_false] at hd
  rcases hd with rfl | rfl <;> assumption
theorem dT3 {n : Nat} {a b c : D} (h1 : dOk n a = true) (h2 : dOk n b = true) (h3 : dOk n c = true) : dOk (n + 1) (.tup [a, b, c]) = true := dOk_tup fun d hd => by
  simp only [List.mem_cons, List.not_mem_nil, or_false] at hd
  rcases hd with rfl | rfl | rfl <;> assumption
theorem dT7 {n : Nat} {a b c d e f g : D} (h1 : dOk n a = true) (h2 : dOk n b = true) (h3 : dOk n c = true) (h4 : dOk n d = true) (h5 : dOk n e = true) (h6 : dOk n f = true) (h7 : dOk n g = true) : dOk (n + 1) (.tup [a, b, c, d, e, f, g]) = true := dOk_tup fun d hd => by
  simp only [List.mem_cons, List.not_mem_nil, or_false] at hd
  rcases hd with rfl | rfl | rfl | rfl | rfl | rfl | rfl <;> assumption
theorem sok_cod (s : String) : Sok (cod s) := cod_ok s
theorem dI {n : Nat} {i : Int} : dOk n (.int i) = true := dOk_int
open LQ (pOk)
theorem pI {n : Nat} {i : Int} : pOk n (.int i) = true := LQ.pOk_int
end DL
set_option Elab.async false
set_option linter.all false
set_option maxRecDepth 100000
set_option maxHeartbeats 2000000
namespace FAN
open PySem PySem.Spec PyProof.Rows L2 DL
abbrev TSII : Type := Nm × Int × Int
abbrev eTSII : TSII → D := eT3 eS D.int D.int
abbrev TSI : Type := Nm × Int
abbrev eTSI : TSI → D := eT2 eS D.int
abbrev TSS : Type := Nm × Nm
abbrev eTSS : TSS → D := eT2 eS eS
abbrev R1 : Type := Nm × (List Nm)
abbrev eR1 : R1 → D := eT2 eS (eSq eS)
abbrev TSSI : Type := Nm × Nm × Int
abbrev eTSSI : TSSI → D := eT3 eS eS D.int
abbrev R2 : Type := Nm × (List TSI) × (List D)
abbrev eR2 : R2 → D := eT3 eS (eLs eTSI) (eLs eD)
abbrev R3 : Type := Nm × (List TSII) × (List TSI) × (List Nm) × (List R2) × (List D) × (List TSS)
abbrev eR3 : R3 → D := eT7 eS (eLs eTSII) (eLs eTSI) (eLs eS) (eLs eR2) (eLs eD) (eLs eTSS)
abbrev R4 : Type := (List TSI) × (List TSI) × (List TSI) × (List TSI) × Int
abbrev eR4 : R4 → D := eT5 (eLs eTSI) (eLs eTSI) (eLs eTSI) (eLs eTSI) D.int
abbrev R5 : Type := Int × TSII
abbrev eR5 : R5 → D := eT2 D.int eTSII
abbrev R6 : Type := Int × TSI
abbrev eR6 : R6 → D := eT2 D.int eTSI
abbrev TIS : Type := Int × Nm
abbrev eTIS : TIS → D := eT2 D.int eS
abbrev TISSII : Type := Int × Nm × Nm × Int × Int
abbrev eTISSII : TISSII → D := eT5 D.int eS eS D.int D.int
abbrev TDDI : Type := D × D × Int
abbrev eTDDI : TDDI → D := eT3 eD eD D.int
abbrev R7 : Type := (List Int) × Int
abbrev eR7 : R7 → D := eT2 (eLs D.int) D.int
abbrev TII : Type := Int × Int
abbrev eTII : TII → D := eT2 D.int D.int
abbrev R8 : Type := Int × TSS
abbrev eR8 : R8 → D := eT2 D.int eTSS
abbrev R9 : Type := TSI × TSI
abbrev eR9 : R9 → D := eT2 eTSI eTSI
abbrev R10 : Type := (List TISSII) × R4 × (List TDDI)
abbrev eR10 : R10 → D := eT3 (eLs eTISSII) eR4 (eLs eTDDI)
abbrev TID : Type := Int × D
abbrev eTID : TID → D := eT2 D.int eD
def n_law_fold (p_law_script : List Int) : Option Int :=
  (fold (fun (x2 : Int) (s1 : Int) =>
  some ((((s1 * (1000003 : Int)) + x2) + (1 : Int)) % (2147483647 : Int))) p_law_script (0 : Int)).bind fun s4 =>
  some s4
def n_law_mixed (p_law_cell_here : Int) (p_law_k : Int) : Option Int :=
  (mulN p_law_k p_law_k).bind fun x1 =>
  (mulN ((((p_law_cell_here % (2147483647 : Int)) * (48271 : Int)) + (((x1 + ((3 : Int) * p_law_k)) + (7 : Int)) * (69621 : Int))) % (2147483647 : Int)) ((((p_law_cell_here % (2147483647 : Int)) * (48271 : Int)) + (((x1 + ((3 : Int) * p_law_k)) + (7 : Int)) * (69621 : Int))) % (2147483647 : Int))).bind fun x2 =>
  some (x2 % (2147483647 : Int))
def n_law_names (p_law_cell_here : Int) (p_law_many : Int) : Option (List Nm) :=
  (n_law_mixed p_law_cell_here (3 : Int)).bind fun x1 =>
  (ixS (cod "abcdefghijklmnpqrstuvwxyz") (x1 % (25 : Int))).bind fun x2 =>
  (if ((decide (((x1 / (25 : Int)) % (3 : Int)) = (0 : Int))) && (decide (p_law_many < (9 : Int)))) = true then
  ((rng1  p_law_many).bind fun x3 =>
  (compO (fun (x4 : Int) => (repN x2 (p_law_many - x4)).bind fun x5 =>
  some x5) x3).bind fun c6 =>
  some c6)
  else ((modN (x1 / (525 : Int)) ((2 : Int) + ((x1 / (75 : Int)) % (7 : Int)))).bind fun x7 =>
  (rng1  p_law_many).bind fun x8 =>
  (fold (fun (x10 : Int) (s9 : (List Nm)) =>
  (rng1  ((2 : Int) + ((x1 / (75 : Int)) % (7 : Int)))).bind fun x14 =>
  (compT (fun (x15 : Int) => x2) x14).bind fun c16 =>
  (ixS (cod "bcdfghjklmnpqrstvwxz") (((x1 / (4200 : Int)) + ((3 : Int) * x10)) % (20 : Int))).bind fun x17 =>
  (putI c16 x7 x17).bind fun x18 =>
  (ixS (cod "bcdfghjklmnpqrstvwxz") (((x1 / (84000 : Int)) + (x10 / (20 : Int))) % (20 : Int))).bind fun x19 =>
  (modN (x7 + (1 : Int)) ((2 : Int) + ((x1 / (75 : Int)) % (7 : Int)))).bind fun x20 =>
  (putI x18 x20 x19).bind fun x21 =>
  (joinN (cod "") x21).bind fun x22 =>
  (push s9 x22).bind fun x23 =>
  some x23) x8 ([] : List Nm)).bind fun s24 =>
  some s24))
def n_law_coins (p_law_cell_here : Int) (p_law_way : Int) (p_law_most : Int) : Option Int :=
  (if (decide ((p_law_way % (5 : Int)) = (0 : Int))) = true then
  (some (1 : Int))
  else ((if (decide ((p_law_way % (5 : Int)) = (1 : Int))) = true then
  (some p_law_most)
  else ((if (decide ((p_law_way % (5 : Int)) = (2 : Int))) = true then
  (some ((1 : Int) + (p_law_cell_here % (7 : Int))))
  else ((if (decide ((p_law_way % (5 : Int)) = (3 : Int))) = true then
  ((modN p_law_cell_here p_law_most).bind fun x1 =>
  some ((1 : Int) + x1))
  else ((modN p_law_cell_here p_law_most).bind fun x2 =>
  (mulN (x2 + (1 : Int)) (p_law_way + (48271 : Int))).bind fun x3 =>
  (modN (x3 * (99999999999999997 : Int)) p_law_most).bind fun x4 =>
  some ((1 : Int) + x4)))))))))
def n_law_claims (p_law_seed : Int) (p_law_names_here : List Nm) (p_law_m : Int) : Option (List TSII) :=
  (rng1  ((1 : Int) + (p_law_m % (6 : Int)))).bind fun x1 =>
  (fold (fun (x3 : Int) (s2 : (List TSII)) =>
  (n_law_mixed p_law_seed ((20 : Int) + x3)).bind fun x7 =>
  (atI [(30 : Int), (1000000000000 : Int)] ((x7 / (1009 : Int)) % (2 : Int))).bind fun x8 =>
  (n_law_coins (p_law_seed + x3) (x7 % (1009 : Int)) x8).bind fun x9 =>
  (atI p_law_names_here ((1 : Int) + x3)).bind fun x10 =>
  (atI [(9 : Int), (1000000000000 : Int)] ((p_law_m / (6 : Int)) % (2 : Int))).bind fun x11 =>
  (n_law_coins (p_law_seed + x3) ((x7 / (2018 : Int)) % (997 : Int)) x11).bind fun x12 =>
  (push s2 (x10, x9, x12)).bind fun x13 =>
  some x13) x1 ([] : List TSII)).bind fun s14 =>
  some s14
def n_law_guards (p_law_m : Int) (p_law_claims_here : List TSII) (p_law_pots : List TSI) : Option (List TSS) :=
  (eqQ (eLs eTSI p_law_pots) (eLs eTSI ([] : List TSI))).bind fun x1 =>
  ((if (!x1) = true then
  ((rng1  (minI (p_law_claims_here.length : Int) (p_law_m % (4 : Int)))).bind fun x2 =>
  (fold (fun (x4 : Int) (s3 : (List TSS)) =>
  (modN ((p_law_m / (4 : Int)) + x4) (p_law_claims_here.length : Int)).bind fun x7 =>
  (atI p_law_claims_here x7).bind fun x8 =>
  (mulN x4 x4).bind fun x9 =>
  (modN ((p_law_m / (24 : Int)) + x9) (p_law_pots.length : Int)).bind fun x10 =>
  (atI p_law_pots x10).bind fun x11 =>
  (push s3 (x11.1, x8.1)).bind fun x12 =>
  some x12) x2 ([] : List TSS)).bind fun s13 =>
  some s13)
  else (some ([] : List TSS))) : Option ((List TSS))).bind fun s14 =>
  some s14
def n_law_cell (p_law_script : List Int) (p_law_k : Int) : Option Int :=
  (if (decide (p_law_k < (p_law_script.length : Int))) = true then
  ((atI p_law_script p_law_k).bind fun x1 =>
  some x1)
  else (some (0 : Int)))
def n_law_rule (p_law_n : Int) (p_law_claims_here : List TSII) (p_law_pots : List TSI) (p_law_free : List Nm) (p_law_others : List Nm) (p_law_kinds : List Nm) : Option D :=
  (modN p_law_n (p_law_kinds.length : Int)).bind fun x1 =>
  (atI p_law_kinds x1).bind fun x2 =>
  (if ((decide (x2 = (cod "share"))) && (decide ((1 : Int) < (p_law_free.length : Int)))) = true then
  ((modN (p_law_n / (64 : Int)) ((p_law_free.length : Int) - (1 : Int))).bind fun x3 =>
  (rng1  ((2 : Int) + x3)).bind fun x4 =>
  (compO (fun (x5 : Int) => (modN ((p_law_n / (9 : Int)) + x5) (p_law_free.length : Int)).bind fun x6 =>
  (atI p_law_free x6).bind fun x7 =>
  some x7) x4).bind fun c8 =>
  some (eR1 ((cod "share"), c8)))
  else ((if (decide (x2 = (cod "repay"))) = true then ((eqQ (eLs eS p_law_free) (eLs eS ([] : List Nm))).bind fun x9 =>
  some (!x9)) else some false).bind fun x10 =>
  (if x10 = true then
  ((modN (p_law_n / (9 : Int)) (p_law_free.length : Int)).bind fun x11 =>
  (atI p_law_free x11).bind fun x12 =>
  some (eTSS ((cod "repay"), x12)))
  else ((if (decide (x2 = (cod "fill"))) = true then ((eqQ (eLs eTSI p_law_pots) (eLs eTSI ([] : List TSI))).bind fun x13 =>
  some (!x13)) else some false).bind fun x14 =>
  (if x14 = true then
  ((modN (p_law_n / (9 : Int)) (p_law_pots.length : Int)).bind fun x15 =>
  (atI p_law_pots x15).bind fun x16 =>
  some (eTSS ((cod "fill"), x16.1)))
  else ((if (decide (x2 = (cod "lend"))) = true then
  ((atI p_law_others ((p_law_n / (9 : Int)) % (2 : Int))).bind fun x17 =>
  (atI [(9 : Int), (1000000000000 : Int)] ((p_law_n / (27 : Int)) % (2 : Int))).bind fun x18 =>
  (n_law_coins p_law_n ((p_law_n / (18 : Int)) % (1009 : Int)) x18).bind fun x19 =>
  some (eTSSI ((cod "lend"), x17, x19)))
  else ((if (decide (x2 = (cod "back"))) = true then
  ((atI p_law_others ((p_law_n / (9 : Int)) % (2 : Int))).bind fun x20 =>
  some (eTSS ((cod "back"), x20)))
  else ((modN (p_law_n / (9 : Int)) (p_law_claims_here.length : Int)).bind fun x21 =>
  (atI p_law_claims_here x21).bind fun x22 =>
  some (eTSS ((cod "pay"), x22.1))))))))))))
def n_law_order (p_law_script : List Int) (p_law_seed : Int) (p_law_name : Nm) (p_law_at : Int) (p_law_claims_here : List TSII) (p_law_pots : List TSI) (p_law_free : List Nm) (p_law_others : List Nm) (p_law_kinds : List Nm) : Option R2 :=
  (n_law_mixed p_law_seed p_law_at).bind fun x1 =>
  (atI [(0 : Int), (0 : Int), (1 : Int), (2 : Int), (3 : Int), (6 : Int)] (x1 % (6 : Int))).bind fun x2 =>
  (rng1  (minI (p_law_claims_here.length : Int) x2)).bind fun x3 =>
  (fold (fun (x5 : Int) (s4 : (List TSI)) =>
  (n_law_mixed p_law_seed ((p_law_at + (40 : Int)) + x5)).bind fun x8 =>
  (atI [(2 : Int), (3 : Int), (10 : Int)] ((x1 / (6 : Int)) % (3 : Int))).bind fun x9 =>
  (modN x8 x9).bind fun x10 =>
  (modN ((x1 / (18 : Int)) + x5) (p_law_claims_here.length : Int)).bind fun x11 =>
  (atI p_law_claims_here x11).bind fun x12 =>
  (push s4 (x12.1, ((1 : Int) + x10))).bind fun x13 =>
  some x13) x3 ([] : List TSI)).bind fun s14 =>
  (eqQ (eLs eS p_law_kinds) (eLs eS ([] : List Nm))).bind fun x15 =>
  ((if (!x15) = true then
  ((atI [(2 : Int), (4 : Int), (8 : Int), ((1 : Int) + ((x1 / (108 : Int)) % (8 : Int)))] ((x1 / (864 : Int)) % (4 : Int))).bind fun x16 =>
  (rng1  x16).bind fun x17 =>
  (fold (fun (x19 : Int) (s18 : (List D)) =>
  (n_law_cell p_law_script (p_law_at + x19)).bind fun x22 =>
  (n_law_mixed (p_law_seed + x22) (p_law_at + x19)).bind fun x23 =>
  (n_law_rule x23 p_law_claims_here p_law_pots p_law_free p_law_others p_law_kinds).bind fun x24 =>
  (push s18 x24).bind fun x25 =>
  some x25) x17 ([] : List D)).bind fun s26 =>
  some s26)
  else (some ([] : List D))) : Option ((List D))).bind fun s27 =>
  (modN (x1 / (3456 : Int)) (p_law_claims_here.length : Int)).bind fun x30 =>
  (atI p_law_claims_here x30).bind fun x31 =>
  (push s27 (eTSS ((cod "rest"), x31.1))).bind fun x32 =>
  some (p_law_name, s14, x32)
def n_law_pool (p_law_script : List Int) (p_law_seed : Int) (p_law_kinds : List Nm) : Option R3 :=
  (n_law_names p_law_seed (12 : Int)).bind fun x1 =>
  (n_law_mixed p_law_seed (1 : Int)).bind fun x2 =>
  (n_law_claims p_law_seed x1 x2).bind fun x3 =>
  (rng1  ((x2 / (72 : Int)) % (4 : Int))).bind fun x4 =>
  (fold (fun (x6 : Int) (s5 : (List TSI)) =>
  (divN x2 ((36 : Int) + x6)).bind fun x9 =>
  (atI [(9 : Int), (1000000000000 : Int)] ((x2 / (12 : Int)) % (2 : Int))).bind fun x10 =>
  (n_law_coins (p_law_seed + x6) (x9 % (1009 : Int)) x10).bind fun x11 =>
  (atI x1 ((7 : Int) + x6)).bind fun x12 =>
  (push s5 (x12, x11)).bind fun x13 =>
  some x13) x4 ([] : List TSI)).bind fun s14 =>
  (n_law_guards (x2 / (288 : Int)) x3 s14).bind fun x15 =>
  (compT (fun (x16 : TSS) => x16.2) x15).bind fun c17 =>
  (compTF (fun (x18 : TSII) => (!decide (x18.1 ∈ c17))) (fun (x18 : TSII) => x18.1) x3).bind fun c19 =>
  (n_law_names (p_law_seed + (1 : Int)) (2 : Int)).bind fun x20 =>
  (rng1  (2 : Int)).bind fun x21 =>
  (fold (fun (x23 : Int) (s22 : (List R2)) =>
  (atI x20 x23).bind fun x25 =>
  (n_law_order p_law_script p_law_seed x25 ((3 : Int) + ((9 : Int) * x23)) x3 s14 c19 (cutA x1 (some (10 : Int)) none) p_law_kinds).bind fun x26 =>
  (chkV (.tup [(.p (eS x26.1)), (oL eTSI x26.2.1), (oL eD x26.2.2)])).bind fun x27 =>
  (push s22 x26).bind fun x28 =>
  some x28) x21 ([] : List R2)).bind fun s29 =>
  (compT (fun (x30 : TSII) => x30.1) (cutA x3 none (some ((x2 / (7 : Int)) % (7 : Int))))).bind fun c31 =>
  (atI x1 (0 : Int)).bind fun x32 =>
  some (x32, x3, s14, c31, s29, ([] : List D), x15)
def n_law_book (p_law_seed : Int) (p_law_pool_here : R3) : Option R4 :=
  (fold (fun (x2 : R5) (s1 : (List TSI) × (List TSI) × (List TSI)) =>
  (n_law_mixed p_law_seed ((200 : Int) + x2.1)).bind fun x8 =>
  (modN (x8 / (35 : Int)) x2.2.2.1).bind fun x9 =>
  (atI [x2.2.2.1, (1 : Int), ((1 : Int) + x9)] ((x8 / (5 : Int)) % (3 : Int))).bind fun x10 =>
  (modN (x8 / (7 : Int)) (((2 : Int) * x2.2.2.2) + (1 : Int))).bind fun x11 =>
  (atI [(0 : Int), x11, ((x8 / (15 : Int)) % (10000000000000 : Int))] ((x8 / (15 : Int)) % (3 : Int))).bind fun x12 =>
  ((if (decide ((x8 % (5 : Int)) = (0 : Int))) = true then
  (some ((0 : Int), (0 : Int)))
  else (some (x10, (x2.2.2.2 + x12)))) : Option (Int × Int)).bind fun s13 =>
  (push s1.1 (x2.2.1, s13.1)).bind fun x14 =>
  (push s1.2.1 (x2.2.1, s13.2)).bind fun x15 =>
  (push s1.2.2 (x2.2.1, ((x8 / (45 : Int)) % (4 : Int)))).bind fun x16 =>
  some (x14, x15, x16)) (enumN 0 p_law_pool_here.2.1) (([] : List TSI), ([] : List TSI), ([] : List TSI))).bind fun s17 =>
  (fold (fun (x19 : R6) (s18 : (List TSI)) =>
  (n_law_mixed p_law_seed ((210 : Int) + x19.1)).bind fun x23 =>
  (modN (x23 / (3 : Int)) (x19.2.2 + (1 : Int))).bind fun x24 =>
  (atI [(0 : Int), x19.2.2, x24] (x23 % (3 : Int))).bind fun x25 =>
  (push s18 (x19.2.1, x25)).bind fun x26 =>
  some x26) (enumN 0 p_law_pool_here.2.2.1) ([] : List TSI)).bind fun s27 =>
  (n_law_mixed p_law_seed (220 : Int)).bind fun x28 =>
  some (s17.1, s17.2.1, s17.2.2, s27, (x28 % (50 : Int)))
def n_law_loans (p_law_seed : Int) (p_law_pool_here : R3) (p_law_others : List Nm) : Option (List TSSI) :=
  (fold (fun (x2 : TIS) (s1 : (List TSSI)) =>
  (n_law_mixed p_law_seed ((230 : Int) + x2.1)).bind fun x6 =>
  ((if (decide ((x6 % (2 : Int)) = (0 : Int))) = true then
  ((atI [(9 : Int), (1000000000000 : Int)] ((x6 / (11 : Int)) % (2 : Int))).bind fun x7 =>
  (n_law_coins x6 ((x6 / (2 : Int)) % (1009 : Int)) x7).bind fun x8 =>
  (push s1 (p_law_pool_here.1, x2.2, x8)).bind fun x9 =>
  some x9)
  else (some s1)) : Option ((List TSSI))).bind fun s10 =>
  (if (decide (((x6 / (2 : Int)) % (2 : Int)) = (0 : Int))) = true then
  ((atI [(9 : Int), (1000000000000 : Int)] ((x6 / (13 : Int)) % (2 : Int))).bind fun x11 =>
  (n_law_coins x6 ((x6 / (4 : Int)) % (1009 : Int)) x11).bind fun x12 =>
  (push s10 (x2.2, p_law_pool_here.1, x12)).bind fun x13 =>
  some x13)
  else (some s10))) (enumN 0 p_law_others) ([] : List TSSI)).bind fun s14 =>
  some (sortBy (fun a b => dLt (eTSSI a) (eTSSI b)) s14)
def n_law_came (p_law_seed : Int) (p_law_pool_here : R3) (p_law_book_here : R4) : Option Int :=
  (n_law_mixed p_law_seed (240 : Int)).bind fun x1 =>
  (catL p_law_book_here.1 p_law_book_here.2.1).bind fun x2 =>
  (compT (fun (x3 : TSI) => x3.2) x2).bind fun c4 =>
  (compT (fun (x5 : TSI) => x5.2) p_law_pool_here.2.2.1).bind fun c6 =>
  (compT (fun (x7 : TSI) => x7.2) (cutA p_law_book_here.2.1 none (some ((1 : Int) + ((x1 / (6 : Int)) % (6 : Int)))))).bind fun c8 =>
  (mulN (c8).sum ((1 : Int) + ((x1 / (36 : Int)) % (3 : Int)))).bind fun x9 =>
  (mulN x1 x1).bind fun x10 =>
  (modN x10 (((c4).sum + (c6).sum) + (2 : Int))).bind fun x11 =>
  (atI [(0 : Int), ((1 : Int) + ((x1 / (6 : Int)) % (9 : Int))), (c8).sum, x9, x11, ((((c4).sum + (c6).sum) * (3 : Int)) + x1)] (x1 % (6 : Int))).bind fun x12 =>
  some x12
def n_law_copied (p_law_book_here : R4) : Option R4 :=
  some (p_law_book_here.1, p_law_book_here.2.1, p_law_book_here.2.2.1, p_law_book_here.2.2.2.1, p_law_book_here.2.2.2.2)
def n_Till_init (p_pool : R3) (p_book : R4) (p_came : Int) (p_loans : List TSSI) : Option (Nm × Int × (List (Nm × Int)) × (List (Nm × Int)) × (List (Nm × Int)) × (List (Nm × Int)) × (List (TSS × Int)) × (List TISSII) × (List TDDI) × (List (Nm × Bool))) :=
  (fold (fun (x2 : TSSI) (s1 : (List (TSS × Int))) =>
  (putK s1 (x2.1, x2.2.1) x2.2.2).bind fun x6 =>
  some x6) p_loans ([] : List (TSS × Int))).bind fun s7 =>
  some (p_pool.1, p_came, (mkK p_book.1), (mkK p_book.2.1), (mkK p_book.2.2.2.1), (mkK p_pool.2.2.1), s7, ([] : List TISSII), ([] : List TDDI), ([] : List (Nm × Bool)))
def n_order_called (p_pool : R3) (p_name : Nm) : Option R2 :=
  (foldB (ρ := R2) (fun (x2 : R2) (s1 : Unit) =>
  (if (decide (x2.1 = p_name)) = true then
  (some (Lp.rt x2))
  else (some (Lp.nx ())))) p_pool.2.2.2.2.1 ()).bind (lpK (fun s4 =>
  (atI p_pool.2.2.2.2.1 (0 : Int)).bind fun x5 =>
  some x5) (fun r => some r))
def n_asked (p_parts : List TSI) (p_came : Int) : Option R7 :=
  (compT (fun (x1 : TSI) => x1.2) p_parts).bind fun c2 =>
  (if (decide ((10 : Int) < (c2).sum)) = true then
  ((compO (fun (x3 : TSI) => (mulN p_came x3.2).bind fun x4 =>
  some ((x4 + (9 : Int)) / (10 : Int))) p_parts).bind fun c5 =>
  some (c5, ((c5).sum - p_came)))
  else ((compO (fun (x6 : TSI) => (mulN p_came x6.2).bind fun x7 =>
  some (x7 / (10 : Int))) p_parts).bind fun c8 =>
  (mulN p_came (c2).sum).bind fun x9 =>
  (rng1  ((x9 / (10 : Int)) - (c8).sum)).bind fun x10 =>
  (fold (fun (x12 : Int) (s11 : (List Int)) =>
  (addI s11 x12 (1 : Int)).bind fun x14 =>
  some x14) x10 c8).bind fun s15 =>
  some (s15, (0 : Int))))
def n_Till_drawn (p_self_cash : Int) (p_need : Int) : Option (Int × Int) :=
  some ((minI p_need p_self_cash), (p_self_cash - (minI p_need p_self_cash)))
def n_fall_parts (p_till_cash : Int) (p_till_entries : List TISSII) (p_parts : List TSI) (p_came : Int) : Option (Int × (List TISSII)) :=
  (n_asked p_parts p_came).bind fun x1 =>
  (fold (fun (x3 : R6) (s2 : Int × (List TISSII)) =>
  (atI x1.1 x3.1).bind fun x7 =>
  (atI x1.1 x3.1).bind fun x8 =>
  (n_Till_drawn s2.1 x8).bind fun x9 =>
  (push s2.2 (x3.1, (cod "part"), x3.2.1, x7, x9.1)).bind fun x10 =>
  some (x9.2, x10)) (enumN 0 p_parts) (p_till_cash, p_till_entries)).bind fun s11 =>
  (if (decide ((0 : Int) < x1.2)) = true then
  ((push s11.2 ((-(1 : Int)), (cod "twice"), (cod ""), (x1.1).sum, p_came)).bind fun x12 =>
  some (s11.1, x12))
  else (some (s11.1, s11.2)))
def n_serve (p_till_served : List (Nm × Bool)) (p_claims : List Nm) (p_need : Int) (p_got : Int) : Option ((List (Nm × Bool))) :=
  (if ((decide ((0 : Int) < p_need)) && (decide (p_got = p_need))) = true then
  ((fold (fun (x2 : Nm) (s1 : (List (Nm × Bool))) =>
  (putK s1 x2 true).bind fun x4 =>
  some x4) p_claims p_till_served).bind fun s5 =>
  some s5)
  else (some p_till_served))
def n_fall_pay (p_till_cash : Int) (p_till_owed : List (Nm × Int)) (p_till_entries : List TISSII) (p_till_served : List (Nm × Bool)) (p_place : Int) (p_claim : Nm) : Option (Int × (List (Nm × Int)) × (List TISSII) × (List (Nm × Bool))) :=
  (lkN p_till_owed p_claim).bind fun x1 =>
  (n_Till_drawn p_till_cash x1).bind fun x2 =>
  (lkN p_till_owed p_claim).bind fun x3 =>
  (putK p_till_owed p_claim (x3 - x2.1)).bind fun x4 =>
  (push p_till_entries (p_place, (cod "pay"), p_claim, x1, x2.1)).bind fun x5 =>
  (n_serve p_till_served [p_claim] x1 x2.1).bind fun x6 =>
  some (x2.2, x4, x5, x6)
def n_shared (p_needs : List Int) (p_cash : Int) : Option (List Int) :=
  (if (decide ((p_needs).sum ≤ p_cash)) = true then
  (some p_needs)
  else ((compO (fun (x1 : Int) => (mulN p_cash x1).bind fun x2 =>
  (divN x2 (p_needs).sum).bind fun x3 =>
  some x3) p_needs).bind fun c4 =>
  (fold (fun (x6 : TII) (s5 : (List Int) × Int) =>
  (if (decide ((0 : Int) < s5.2)) = true then ((atI s5.1 x6.1).bind fun x9 =>
  some (decide (x9 < x6.2))) else some false).bind fun x10 =>
  (if x10 = true then
  ((addI s5.1 x6.1 (1 : Int)).bind fun x11 =>
  some (x11, (s5.2 - (1 : Int))))
  else (some (s5.1, s5.2)))) (enumN 0 p_needs) (c4, (p_cash - (c4).sum))).bind fun s12 =>
  some s12.1))
def n_serve_2 (p_till_served : List (Nm × Bool)) (p_claims : List Nm) (p_need : Int) (p_got : Int) : Option ((List (Nm × Bool))) :=
  (if ((decide ((0 : Int) < p_need)) && (decide (p_got = p_need))) = true then
  ((fold (fun (x2 : Nm) (s1 : (List (Nm × Bool))) =>
  (putK s1 x2 true).bind fun x4 =>
  some x4) p_claims p_till_served).bind fun s5 =>
  some s5)
  else (some p_till_served))
def n_fall_share (p_till_cash : Int) (p_till_owed : List (Nm × Int)) (p_till_entries : List TISSII) (p_till_served : List (Nm × Bool)) (p_place : Int) (p_claims : List Nm) : Option (Int × (List (Nm × Int)) × (List TISSII) × (List (Nm × Bool))) :=
  (compO (fun (x1 : Nm) => (lkN p_till_owed x1).bind fun x2 =>
  some x2) p_claims).bind fun c3 =>
  (n_shared c3 p_till_cash).bind fun x4 =>
  (fold (fun (x6 : TIS) (s5 : Int × (List (Nm × Int)) × (List TISSII)) =>
  (lkN s5.2.1 x6.2).bind fun x10 =>
  (atI x4 x6.1).bind fun x11 =>
  (n_Till_drawn s5.1 x11).bind fun x12 =>
  (putK s5.2.1 x6.2 (x10 - x12.1)).bind fun x13 =>
  (atI c3 x6.1).bind fun x14 =>
  (atI x4 x6.1).bind fun x15 =>
  (push s5.2.2 (p_place, (cod "share"), x6.2, x14, x15)).bind fun x16 =>
  some (x12.2, x13, x16)) (enumN 0 p_claims) (p_till_cash, p_till_owed, p_till_entries)).bind fun s17 =>
  (n_serve_2 p_till_served p_claims (c3).sum (x4).sum).bind fun x18 =>
  some (s17.1, s17.2.1, s17.2.2, x18)
def n_fall_repay (p_till_cash : Int) (p_till_sizes : List (Nm × Int)) (p_till_owed : List (Nm × Int)) (p_till_entries : List TISSII) (p_till_served : List (Nm × Bool)) (p_place : Int) (p_claim : Nm) : Option (Int × (List (Nm × Int)) × (List (Nm × Int)) × (List TISSII) × (List (Nm × Bool))) :=
  (lkN p_till_owed p_claim).bind fun x1 =>
  (lkN p_till_sizes p_claim).bind fun x2 =>
  (n_Till_drawn p_till_cash (x1 + x2)).bind fun x3 =>
  (lkN p_till_owed p_claim).bind fun x4 =>
  (lkN p_till_owed p_claim).bind fun x5 =>
  (putK p_till_owed p_claim (x5 - (minI x3.1 x4))).bind fun x6 =>
  (lkN p_till_sizes p_claim).bind fun x7 =>
  (putK p_till_sizes p_claim (x7 - (x3.1 - (minI x3.1 x4)))).bind fun x8 =>
  (push p_till_entries (p_place, (cod "repay"), p_claim, (x1 + x2), x3.1)).bind fun x9 =>
  (n_serve p_till_served [p_claim] (x1 + x2) x3.1).bind fun x10 =>
  some (x3.2, x8, x6, x9, x10)
def n_fall_fill (p_till_cash : Int) (p_till_levels : List (Nm × Int)) (p_till_marks : List (Nm × Int)) (p_till_entries : List TISSII) (p_place : Int) (p_pot : Nm) : Option (Int × (List (Nm × Int)) × (List TISSII)) :=
  (lkN p_till_marks p_pot).bind fun x1 =>
  (lkN p_till_levels p_pot).bind fun x2 =>
  (n_Till_drawn p_till_cash (x1 - x2)).bind fun x3 =>
  (lkN p_till_levels p_pot).bind fun x4 =>
  (putK p_till_levels p_pot (x4 + x3.1)).bind fun x5 =>
  (push p_till_entries (p_place, (cod "fill"), p_pot, (x1 - x2), x3.1)).bind fun x6 =>
  some (x3.2, x5, x6)
def n_fall_loan (p_till_owner : Nm) (p_till_cash : Int) (p_till_loans : List (TSS × Int)) (p_till_entries : List TISSII) (p_till_moves : List TDDI) (p_place : Int) (p_rule : D) : Option (Int × (List (TSS × Int)) × (List TISSII) × (List TDDI)) :=
  (ixD p_rule (0 : Int)).bind fun x1 =>
  (eqQ x1 (eS (cod "lend"))).bind fun x2 =>
  ((if x2 = true then
  ((ixD p_rule (1 : Int)).bind fun x3 =>
  (asSN x3).bind fun x4 =>
  (ixD p_rule (2 : Int)).bind fun x5 =>
  (asIntD x5).bind fun x6 =>
  (n_Till_drawn p_till_cash (maxI (0 : Int) (x6 - ((lkN p_till_loans (p_till_owner, x4)).getD (0 : Int))))).bind fun x7 =>
  (putK p_till_loans (p_till_owner, x4) (((lkN p_till_loans (p_till_owner, x4)).getD (0 : Int)) + x7.1)).bind fun x8 =>
  some (x7.2, x8, (maxI (0 : Int) (x6 - ((lkN p_till_loans (p_till_owner, x4)).getD (0 : Int)))), x7.1))
  else ((ixD p_rule (1 : Int)).bind fun x9 =>
  (asSN x9).bind fun x10 =>
  (n_Till_drawn p_till_cash ((lkN p_till_loans (x10, p_till_owner)).getD (0 : Int))).bind fun x11 =>
  (putK p_till_loans (x10, p_till_owner) (((lkN p_till_loans (x10, p_till_owner)).getD (0 : Int)) - x11.1)).bind fun x12 =>
  some (x11.2, x12, ((lkN p_till_loans (x10, p_till_owner)).getD (0 : Int)), x11.1))) : Option (Int × (List (TSS × Int)) × Int × Int)).bind fun s13 =>
  (ixD p_rule (0 : Int)).bind fun x15 =>
  (ixD p_rule (1 : Int)).bind fun x16 =>
  (asSN x15).bind fun x17 =>
  (asSN x16).bind fun x18 =>
  (push p_till_entries (p_place, x17, x18, s13.2.2.1, s13.2.2.2)).bind fun x19 =>
  (if (decide ((0 : Int) < s13.2.2.2)) = true then
  ((ixD p_rule (0 : Int)).bind fun x20 =>
  (ixD p_rule (1 : Int)).bind fun x21 =>
  (push p_till_moves (x20, x21, s13.2.2.2)).bind fun x22 =>
  some (s13.1, s13.2.1, x19, x22))
  else (some (s13.1, s13.2.1, x19, p_till_moves)))
def n_fall_rule (p_till_owner : Nm) (p_till_cash : Int) (p_till_sizes : List (Nm × Int)) (p_till_owed : List (Nm × Int)) (p_till_levels : List (Nm × Int)) (p_till_marks : List (Nm × Int)) (p_till_loans : List (TSS × Int)) (p_till_entries : List TISSII) (p_till_moves : List TDDI) (p_till_served : List (Nm × Bool)) (p_place : Int) (p_rule : D) : Option (Int × (List (Nm × Int)) × (List (Nm × Int)) × (List (Nm × Int)) × (List (TSS × Int)) × (List TISSII) × (List TDDI) × (List (Nm × Bool))) :=
  (ixD p_rule (0 : Int)).bind fun x1 =>
  (eqQ x1 (eS (cod "pay"))).bind fun x2 =>
  (if x2 = true then
  ((ixD p_rule (1 : Int)).bind fun x3 =>
  (asSN x3).bind fun x4 =>
  (n_fall_pay p_till_cash p_till_owed p_till_entries p_till_served p_place x4).bind fun x5 =>
  some (x5.1, p_till_sizes, x5.2.1, p_till_levels, p_till_loans, x5.2.2.1, p_till_moves, x5.2.2.2))
  else ((ixD p_rule (0 : Int)).bind fun x6 =>
  (eqQ x6 (eS (cod "share"))).bind fun x7 =>
  (if x7 = true then
  ((ixD p_rule (1 : Int)).bind fun x8 =>
  (asQS x8).bind fun x9 =>
  (n_fall_share p_till_cash p_till_owed p_till_entries p_till_served p_place x9).bind fun x10 =>
  some (x10.1, p_till_sizes, x10.2.1, p_till_levels, p_till_loans, x10.2.2.1, p_till_moves, x10.2.2.2))
  else ((ixD p_rule (0 : Int)).bind fun x11 =>
  (eqQ x11 (eS (cod "repay"))).bind fun x12 =>
  (if x12 = true then
  ((ixD p_rule (1 : Int)).bind fun x13 =>
  (asSN x13).bind fun x14 =>
  (n_fall_repay p_till_cash p_till_sizes p_till_owed p_till_entries p_till_served p_place x14).bind fun x15 =>
  some (x15.1, x15.2.1, x15.2.2.1, p_till_levels, p_till_loans, x15.2.2.2.1, p_till_moves, x15.2.2.2.2))
  else ((ixD p_rule (0 : Int)).bind fun x16 =>
  (eqQ x16 (eS (cod "fill"))).bind fun x17 =>
  (if x17 = true then
  ((ixD p_rule (1 : Int)).bind fun x18 =>
  (asSN x18).bind fun x19 =>
  (n_fall_fill p_till_cash p_till_levels p_till_marks p_till_entries p_place x19).bind fun x20 =>
  some (x20.1, p_till_sizes, p_till_owed, x20.2.1, p_till_loans, x20.2.2, p_till_moves, p_till_served))
  else ((ixD p_rule (0 : Int)).bind fun x21 =>
  (eqQ x21 (eS (cod "rest"))).bind fun x22 =>
  (if x22 = true then
  ((ixD p_rule (1 : Int)).bind fun x24 =>
  (n_Till_drawn p_till_cash p_till_cash).bind fun x25 =>
  (asSN x24).bind fun x26 =>
  (push p_till_entries (p_place, (cod "rest"), x26, p_till_cash, x25.1)).bind fun x27 =>
  some (x25.2, p_till_sizes, p_till_owed, p_till_levels, p_till_loans, x27, p_till_moves, p_till_served))
  else ((n_fall_loan p_till_owner p_till_cash p_till_loans p_till_entries p_till_moves p_place p_rule).bind fun x28 =>
  some (x28.1, p_till_sizes, p_till_owed, p_till_levels, x28.2.1, x28.2.2.1, x28.2.2.2, p_till_served)))))))))))
def n_fall_guards (p_till_owed : List (Nm × Int)) (p_till_levels : List (Nm × Int)) (p_till_entries : List TISSII) (p_guards : List TSS) : Option ((List (Nm × Int)) × (List (Nm × Int)) × (List TISSII)) :=
  (fold (fun (x2 : R8) (s1 : (List (Nm × Int)) × (List (Nm × Int)) × (List TISSII)) =>
  (lkN s1.1 x2.2.2).bind fun x9 =>
  (lkN s1.2.1 x2.2.1).bind fun x10 =>
  (lkN s1.2.1 x2.2.1).bind fun x11 =>
  (putK s1.2.1 x2.2.1 (x11 - (minI x10 x9))).bind fun x12 =>
  (lkN s1.1 x2.2.2).bind fun x13 =>
  (putK s1.1 x2.2.2 (x13 - (minI x10 x9))).bind fun x14 =>
  (push s1.2.2 (x2.1, (cod "guard"), x2.2.2, x9, (minI x10 x9))).bind fun x15 =>
  some (x14, x12, x15)) (enumN 0 p_guards) (p_till_owed, p_till_levels, p_till_entries)).bind fun s16 =>
  some (s16.1, s16.2.1, s16.2.2)
def n_runs_on (p_till_served : List (Nm × Bool)) (p_book : R4) : Option (List TSI) :=
  (fold (fun (x2 : R9) (s1 : (List TSI)) =>
  (if ((decide ((0 : Int) < x2.1.2)) && (!(lkN p_till_served x2.2.1).isSome)) = true then
  ((push s1 (x2.2.1, (x2.2.2 + (1 : Int)))).bind fun x6 =>
  some x6)
  else ((push s1 (x2.2.1, (0 : Int))).bind fun x7 =>
  some x7))) (zipN p_book.1 p_book.2.2.1) ([] : List TSI)).bind fun s8 =>
  some s8
def n_fell (p_pool : R3) (p_order : Nm) (p_book : R4) (p_came : Int) (p_loans : List TSSI) : Option R10 :=
  (n_Till_init p_pool p_book p_came p_loans).bind fun x1 =>
  (n_order_called p_pool p_order).bind fun x2 =>
  (n_fall_parts x1.2.1 x1.2.2.2.2.2.2.2.1 x2.2.1 p_came).bind fun x3 =>
  (fold (fun (x5 : TID) (s4 : Int × (List (Nm × Int)) × (List (Nm × Int)) × (List (Nm × Int)) × (List (TSS × Int)) × (List TISSII) × (List TDDI) × (List (Nm × Bool))) =>
  (n_fall_rule x1.1 s4.1 s4.2.1 s4.2.2.1 s4.2.2.2.1 x1.2.2.2.2.2.1 s4.2.2.2.2.1 s4.2.2.2.2.2.1 s4.2.2.2.2.2.2.1 s4.2.2.2.2.2.2.2 ((x2.2.1.length : Int) + x5.1) x5.2).bind fun x8 =>
  some (x8.1, x8.2.1, x8.2.2.1, x8.2.2.2.1, x8.2.2.2.2.1, x8.2.2.2.2.2.1, x8.2.2.2.2.2.2.1, x8.2.2.2.2.2.2.2)) (enumN 0 x2.2.2) (x3.1, x1.2.2.1, x1.2.2.2.1, x1.2.2.2.2.1, x1.2.2.2.2.2.2.1, x3.2, x1.2.2.2.2.2.2.2.2.1, x1.2.2.2.2.2.2.2.2.2)).bind fun s9 =>
  (n_fall_guards s9.2.2.1 s9.2.2.2.1 s9.2.2.2.2.2.1 p_pool.2.2.2.2.2.2).bind fun x10 =>
  (compO (fun (x11 : TSI) => (lkN s9.2.1 x11.1).bind fun x12 =>
  some (x11.1, x12)) p_book.1).bind fun c13 =>
  (compO (fun (x14 : TSI) => (lkN x10.1 x14.1).bind fun x15 =>
  some (x14.1, x15)) p_book.2.1).bind fun c16 =>
  (compO (fun (x17 : TSI) => (lkN x10.2.1 x17.1).bind fun x18 =>
  some (x17.1, x18)) p_book.2.2.2.1).bind fun c19 =>
  (n_runs_on s9.2.2.2.2.2.2.2 p_book).bind fun x20 =>
  some (x10.2.2, (c13, c16, x20, c19, p_book.2.2.2.2), s9.2.2.2.2.2.2.1)
def n_law_till (p_law_pool_here : R3) (p_law_book_here : R4) (p_law_came_here : Int) (p_law_loans_here : List TSSI) : Option (Int × (List (Nm × Int)) × (List (Nm × Int)) × (List (Nm × Int)) × (List TSSI) × (List (Nm × Int)) × (List TISSII) × (List D) × (List Nm)) :=
  some (p_law_came_here, (mkK p_law_book_here.1), (mkK p_law_book_here.2.1), (mkK p_law_book_here.2.2.2.1), p_law_loans_here, (mkK p_law_pool_here.2.2.1), ([] : List TISSII), ([] : List D), ([] : List Nm))
def n_law_asks (p_law_parts : List TSI) (p_law_came_here : Int) : Option (List Int) :=
  (compT (fun (x1 : TSI) => x1.2) p_law_parts).bind fun c2 =>
  (if (decide ((10 : Int) < (c2).sum)) = true then
  ((compO (fun (x3 : TSI) => (mulN p_law_came_here x3.2).bind fun x4 =>
  some ((0 : Int) - (((0 : Int) - x4) / (10 : Int)))) p_law_parts).bind fun c5 =>
  some c5)
  else ((compO (fun (x6 : TSI) => (mulN p_law_came_here x6.2).bind fun x7 =>
  some (x7 / (10 : Int))) p_law_parts).bind fun c8 =>
  (mulN p_law_came_here (c2).sum).bind fun x9 =>
  (rng1  (c8.length : Int)).bind fun x10 =>
  (compO (fun (x11 : Int) => (atI c8 x11).bind fun x12 =>
  some (x12 + (if (decide (x11 < ((x9 / (10 : Int)) - (c8).sum))) = true then (1 : Int) else (0 : Int)))) x10).bind fun c13 =>
  some c13))
def n_law_take (p_law_till_here_cash : Int) (p_law_need : Int) : Option (Int × Int) :=
  some ((minI p_law_need p_law_till_here_cash), (p_law_till_here_cash - (minI p_law_need p_law_till_here_cash)))
def n_law_parted (p_law_till_here_cash : Int) (p_law_till_here_rows : List TISSII) (p_law_parts : List TSI) (p_law_came_here : Int) : Option (Int × (List TISSII)) :=
  (n_law_asks p_law_parts p_law_came_here).bind fun x1 =>
  (fold (fun (x3 : R6) (s2 : Int × (List TISSII)) =>
  (atI x1 x3.1).bind fun x7 =>
  (atI x1 x3.1).bind fun x8 =>
  (n_law_take s2.1 x8).bind fun x9 =>
  (push s2.2 (x3.1, (cod "part"), x3.2.1, x7, x9.1)).bind fun x10 =>
  some (x9.2, x10)) (enumN 0 p_law_parts) (p_law_till_here_cash, p_law_till_here_rows)).bind fun s11 =>
  (compT (fun (x12 : TSI) => x12.2) p_law_parts).bind fun c13 =>
  (if ((decide ((10 : Int) < (c13).sum)) && (decide ((0 : Int) < p_law_came_here))) = true then
  ((push s11.2 ((-(1 : Int)), (cod "twice"), (cod ""), (x1).sum, p_law_came_here)).bind fun x14 =>
  some (s11.1, x14))
  else (some (s11.1, s11.2)))
def n_law_rest (p_law_till_here_cash : Int) (p_law_till_here_rows : List TISSII) (p_law_place : Int) (p_law_claim : Nm) : Option (Int × (List TISSII)) :=
  (push p_law_till_here_rows (p_law_place, (cod "rest"), p_law_claim, p_law_till_here_cash, p_law_till_here_cash)).bind fun x1 =>
  some ((0 : Int), x1)
def n_law_repay (p_law_till_here_cash : Int) (p_law_till_here_sizes : List (Nm × Int)) (p_law_till_here_owed : List (Nm × Int)) (p_law_till_here_rows : List TISSII) (p_law_till_here_served : List Nm) (p_law_place : Int) (p_law_claim : Nm) : Option (Int × (List (Nm × Int)) × (List (Nm × Int)) × (List TISSII) × (List Nm)) :=
  (lkN p_law_till_here_owed p_law_claim).bind fun x1 =>
  (lkN p_law_till_here_sizes p_law_claim).bind fun x2 =>
  (n_law_take p_law_till_here_cash (x1 + x2)).bind fun x3 =>
  (putK p_law_till_here_owed p_law_claim (maxI (0 : Int) (x1 - x3.1))).bind fun x4 =>
  (lkN p_law_till_here_sizes p_law_claim).bind fun x5 =>
  (putK p_law_till_here_sizes p_law_claim (x5 - (maxI (0 : Int) (x3.1 - x1)))).bind fun x6 =>
  (push p_law_till_here_rows (p_law_place, (cod "repay"), p_law_claim, (x1 + x2), x3.1)).bind fun x7 =>
  (if ((decide (x3.1 = (x1 + x2))) && (decide ((0 : Int) < (x1 + x2)))) = true then
  ((push p_law_till_here_served p_law_claim).bind fun x8 =>
  some (x3.2, x6, x4, x7, x8))
  else (some (x3.2, x6, x4, x7, p_law_till_here_served)))
def n_law_fill (p_law_till_here_cash : Int) (p_law_till_here_levels : List (Nm × Int)) (p_law_till_here_marks : List (Nm × Int)) (p_law_till_here_rows : List TISSII) (p_law_place : Int) (p_law_pot : Nm) : Option (Int × (List (Nm × Int)) × (List TISSII)) :=
  (lkN p_law_till_here_marks p_law_pot).bind fun x1 =>
  (lkN p_law_till_here_levels p_law_pot).bind fun x2 =>
  (n_law_take p_law_till_here_cash (x1 - x2)).bind fun x3 =>
  (lkN p_law_till_here_levels p_law_pot).bind fun x4 =>
  (putK p_law_till_here_levels p_law_pot (x4 + x3.1)).bind fun x5 =>
  (push p_law_till_here_rows (p_law_place, (cod "fill"), p_law_pot, (x1 - x2), x3.1)).bind fun x6 =>
  some (x3.2, x5, x6)
def n_law_pay (p_law_till_here_cash : Int) (p_law_till_here_owed : List (Nm × Int)) (p_law_till_here_rows : List TISSII) (p_law_till_here_served : List Nm) (p_law_place : Int) (p_law_claim : Nm) : Option (Int × (List (Nm × Int)) × (List TISSII) × (List Nm)) :=
  (lkN p_law_till_here_owed p_law_claim).bind fun x1 =>
  (n_law_take p_law_till_here_cash x1).bind fun x2 =>
  (putK p_law_till_here_owed p_law_claim (x1 - x2.1)).bind fun x3 =>
  (push p_law_till_here_rows (p_law_place, (cod "pay"), p_law_claim, x1, x2.1)).bind fun x4 =>
  (if ((decide (x2.1 = x1)) && (decide ((0 : Int) < x1))) = true then
  ((push p_law_till_here_served p_law_claim).bind fun x5 =>
  some (x2.2, x3, x4, x5))
  else (some (x2.2, x3, x4, p_law_till_here_served)))
def n_law_guarded (p_law_till_here_owed : List (Nm × Int)) (p_law_till_here_levels : List (Nm × Int)) (p_law_till_here_rows : List TISSII) (p_law_guards_here : List TSS) : Option ((List (Nm × Int)) × (List (Nm × Int)) × (List TISSII)) :=
  (fold (fun (x2 : R8) (s1 : (List (Nm × Int)) × (List (Nm × Int)) × (List TISSII)) =>
  (lkN s1.1 x2.2.2).bind fun x7 =>
  (lkN s1.2.1 x2.2.1).bind fun x8 =>
  (lkN s1.2.1 x2.2.1).bind fun x9 =>
  (putK s1.2.1 x2.2.1 (x9 - (minI x7 x8))).bind fun x10 =>
  (putK s1.1 x2.2.2 (x7 - (minI x7 x8))).bind fun x11 =>
  (push s1.2.2 (x2.1, (cod "guard"), x2.2.2, x7, (minI x7 x8))).bind fun x12 =>
  some (x11, x10, x12)) (enumN 0 p_law_guards_here) (p_law_till_here_owed, p_law_till_here_levels, p_law_till_here_rows)).bind fun s13 =>
  some (s13.1, s13.2.1, s13.2.2)
def n_law_behind (p_law_till_here_sizes : List (Nm × Int)) (p_law_till_here_owed : List (Nm × Int)) (p_law_till_here_levels : List (Nm × Int)) (p_law_till_here_served : List Nm) (p_law_book_here : R4) : Option R4 :=
  (fold (fun (x2 : TSI) (s1 : (List TSI)) =>
  (lkN (mkK p_law_book_here.1) x2.1).bind fun x6 =>
  (push s1 (x2.1, (if ((decide ((0 : Int) < x6)) && (!decide (x2.1 ∈ p_law_till_here_served))) = true then (x2.2 + (1 : Int)) else (0 : Int)))).bind fun x7 =>
  some x7) p_law_book_here.2.2.1 ([] : List TSI)).bind fun s8 =>
  (compO (fun (x9 : TSI) => (lkN p_law_till_here_sizes x9.1).bind fun x10 =>
  some (x9.1, x10)) p_law_book_here.1).bind fun c11 =>
  (compO (fun (x12 : TSI) => (lkN p_law_till_here_owed x12.1).bind fun x13 =>
  some (x12.1, x13)) p_law_book_here.2.1).bind fun c14 =>
  (compO (fun (x15 : TSI) => (lkN p_law_till_here_levels x15.1).bind fun x16 =>
  some (x15.1, x16)) p_law_book_here.2.2.2.1).bind fun c17 =>
  some (c11, c14, s8, c17, p_law_book_here.2.2.2.2)
end FAN
set_option Elab.async false
set_option linter.all false
set_option maxRecDepth 100000
set_option maxHeartbeats 2000000
namespace DK
open PySem PySem.Spec PyProof.Rows L2 DL
abbrev TSS : Type := Nm × Nm
abbrev eTSS : TSS → D := eT2 eS eS
abbrev R1 : Type := Nm × (List Nm)
abbrev eR1 : R1 → D := eT2 eS (eSq eS)
abbrev TSSI : Type := Nm × Nm × Int
abbrev eTSSI : TSSI → D := eT3 eS eS D.int
abbrev TSI : Type := Nm × Int
abbrev eTSI : TSI → D := eT2 eS D.int
abbrev R2 : Type := Nm × (List TSI) × (List D)
abbrev eR2 : R2 → D := eT3 eS (eLs eTSI) (eLs eD)
abbrev TIS : Type := Int × Nm
abbrev eTIS : TIS → D := eT2 D.int eS
abbrev TSII : Type := Nm × Int × Int
abbrev eTSII : TSII → D := eT3 eS D.int D.int
abbrev TSIS : Type := Nm × Int × Nm
abbrev eTSIS : TSIS → D := eT3 eS D.int eS
abbrev R3 : Type := Nm × (List TSII) × (List TSI) × (List Nm) × (List R2) × (List TSIS) × (List TSS)
abbrev eR3 : R3 → D := eT7 eS (eLs eTSII) (eLs eTSI) (eLs eS) (eLs eR2) (eLs eTSIS) (eLs eTSS)
def n_law_draw (p_law_script : List Int) (p_law_k : Int) (p_law_many : Int) : Option Int :=
  ((if (decide ((0 : Int) < (p_law_script.length : Int))) = true then
  ((modN p_law_k (p_law_script.length : Int)).bind fun x1 =>
  (atI p_law_script x1).bind fun x2 =>
  some x2)
  else (some (0 : Int))) : Option Int).bind fun s3 =>
  (mulN ((1103 : Int) * p_law_k) p_law_k).bind fun x4 =>
  (mulN (((s3 % (2147483647 : Int)) + ((7 : Int) * p_law_k)) + (3 : Int)) ((48271 : Int) + x4)).bind fun x5 =>
  (modN ((x5 % (2147483629 : Int)) / (64 : Int)) p_law_many).bind fun x6 =>
  some x6
def n_law_names (p_law_script : List Int) : Option (List Nm) :=
  (n_law_draw p_law_script (901 : Int) (2 : Int)).bind fun x1 =>
  (repN (cod "zq") x1).bind fun x2 =>
  (n_law_draw p_law_script (902 : Int) (4 : Int)).bind fun x3 =>
  (cutN (cod "vzb") none (some x3)).bind fun x4 =>
  (n_law_draw p_law_script (903 : Int) (16 : Int)).bind fun x5 =>
  (rng1  (16 : Int)).bind fun x6 =>
  (compO (fun (x7 : Int) => (ixS (cod "bcdfgjkmnpqvwxyz") ((x5 + x7) % (16 : Int))).bind fun x8 =>
  (catS x2 x8).bind fun x9 =>
  (catS x9 x4).bind fun x10 =>
  some x10) x6).bind fun c11 =>
  some c11
def n_law_coins (p_law_script : List Int) (p_law_k : Int) : Option Int :=
  ((if (decide ((0 : Int) < (p_law_script.length : Int))) = true then
  ((modN p_law_k (p_law_script.length : Int)).bind fun x1 =>
  (atI p_law_script x1).bind fun x2 =>
  some x2)
  else (some (0 : Int))) : Option Int).bind fun s3 =>
  (n_law_draw p_law_script (900 : Int) (3 : Int)).bind fun x4 =>
  (if (decide ((0 : Int) < x4)) = true then
  ((n_law_draw p_law_script p_law_k (9 : Int)).bind fun x5 =>
  some ((1 : Int) + x5))
  else ((mulN p_law_k p_law_k).bind fun x6 =>
  (mulN (((s3 % (10000000000000000000000000000000000000000 : Int)) + x6) + (1 : Int)) (262078551400494415750351 : Int)).bind fun x7 =>
  some ((1 : Int) + (x7 % (1000000000000 : Int)))))
def n_law_rule (p_law_script : List Int) (p_law_k : Int) (p_law_claims : List Nm) (p_law_pots : List Nm) (p_law_others : List Nm) : Option D :=
  (n_law_draw p_law_script p_law_k (9 : Int)).bind fun x1 =>
  (n_law_draw p_law_script (p_law_k + (1 : Int)) (p_law_claims.length : Int)).bind fun x2 =>
  (atI p_law_claims x2).bind fun x3 =>
  (if (decide (x1 < (3 : Int))) = true then
  (some (eTSS ((cod "pay"), x3)))
  else ((if (decide (x1 = (3 : Int))) = true then ((if (decide ((1 : Int) < (p_law_claims.length : Int))) = true then ((n_law_draw p_law_script (p_law_k + (2 : Int)) (2 : Int)).bind fun x4 =>
  some (decide (x4 = (0 : Int)))) else some false).bind fun x5 =>
  some x5) else some false).bind fun x6 =>
  (if x6 = true then
  (some (eR1 ((cod "share"), (cutA p_law_claims none (some (2 : Int))))))
  else ((if ((decide (x1 = (3 : Int))) && (decide ((1 : Int) < (p_law_claims.length : Int)))) = true then
  ((catL (cutA p_law_claims (some (-(1 : Int))) none) (cutA p_law_claims none (some (-(1 : Int))))).bind fun x7 =>
  some (eR1 ((cod "share"), x7)))
  else ((if (decide (x1 = (4 : Int))) = true then
  (some (eTSS ((cod "repay"), x3)))
  else ((if ((decide (x1 = (5 : Int))) && (decide ((0 : Int) < (p_law_pots.length : Int)))) = true then
  ((n_law_draw p_law_script (p_law_k + (2 : Int)) (p_law_pots.length : Int)).bind fun x8 =>
  (atI p_law_pots x8).bind fun x9 =>
  some (eTSS ((cod "fill"), x9)))
  else ((if ((decide ((5 : Int) < x1)) && (decide ((0 : Int) < (p_law_others.length : Int)))) = true then
  ((n_law_draw p_law_script (p_law_k + (2 : Int)) (p_law_others.length : Int)).bind fun x10 =>
  (atI p_law_others x10).bind fun x11 =>
  (if (decide (x1 = (8 : Int))) = true then
  (some (eTSS ((cod "back"), x11)))
  else ((n_law_coins p_law_script (p_law_k + (3 : Int))).bind fun x12 =>
  some (eTSSI ((cod "lend"), x11, x12)))))
  else (some (eTSS ((cod "pay"), x3))))))))))))))
def n_law_order (p_law_script : List Int) (p_law_k : Int) (p_law_name : Nm) (p_law_claims : List Nm) (p_law_pots : List Nm) (p_law_others : List Nm) : Option R2 :=
  (fold (fun (x2 : TIS) (s1 : (List TSI)) =>
  (n_law_draw p_law_script (p_law_k + x2.1) (4 : Int)).bind fun x5 =>
  (if (decide (x5 = (0 : Int))) = true then
  ((n_law_draw p_law_script ((p_law_k + (5 : Int)) + x2.1) (10 : Int)).bind fun x6 =>
  (push s1 (x2.2, ((1 : Int) + x6))).bind fun x7 =>
  some x7)
  else (some s1))) (enumN 0 p_law_claims) ([] : List TSI)).bind fun s8 =>
  (n_law_draw p_law_script (p_law_k + (8 : Int)) (6 : Int)).bind fun x9 =>
  (rng1  x9).bind fun x10 =>
  (fold (fun (x12 : Int) (s11 : (List D)) =>
  (n_law_rule p_law_script ((p_law_k + (10 : Int)) + ((5 : Int) * x12)) p_law_claims p_law_pots p_law_others).bind fun x14 =>
  (push s11 x14).bind fun x15 =>
  some x15) x10 ([] : List D)).bind fun s16 =>
  (n_law_draw p_law_script (p_law_k + (9 : Int)) (p_law_claims.length : Int)).bind fun x17 =>
  (atI p_law_claims x17).bind fun x18 =>
  (catL s16 [eTSS ((cod "rest"), x18)]).bind fun x19 =>
  some (p_law_name, s8, x19)
def n_law_free (p_law_orders : List R2) (p_law_claims : List Nm) : Option (List Nm) :=
  (fold (fun (x2 : R2) (s1 : (List D)) =>
  (fold (fun (x8 : D) (s7 : (List D)) =>
  (ixD x8 (0 : Int)).bind fun x10 =>
  (eqQ (eD x10) (eS (cod "share"))).bind fun x11 =>
  ((if x11 = true then
  ((ixD x8 (1 : Int)).bind fun x12 =>
  (itemsT (.p x12)).bind fun x13 =>
  (catL s7 x13).bind fun x14 =>
  some x14)
  else (some s7)) : Option ((List D))).bind fun s15 =>
  (ixD x8 (0 : Int)).bind fun x16 =>
  (eqQ (eD x16) (eS (cod "repay"))).bind fun x17 =>
  (if x17 = true then
  ((ixD x8 (1 : Int)).bind fun x18 =>
  (push s15 x18).bind fun x19 =>
  some x19)
  else (some s15))) x2.2.2 s1).bind fun s20 =>
  some s20) p_law_orders ([] : List D)).bind fun s21 =>
  (compG (fun (x22 : Nm) =>
  (inQ (eS x22) ((eLs eD) s21)).bind fun x23 =>
  (if (!x23) = true then (some (some x22)) else some none)) p_law_claims).bind fun c24 =>
  some c24
def n_law_some (p_law_script : List Int) (p_law_k : Int) (p_law_names_here : List Nm) : Option (List Nm) :=
  (fold (fun (x2 : TIS) (s1 : (List Nm)) =>
  (n_law_draw p_law_script (p_law_k + x2.1) (3 : Int)).bind fun x5 =>
  (if (decide ((0 : Int) < x5)) = true then
  ((push s1 x2.2).bind fun x6 =>
  some x6)
  else (some s1))) (enumN 0 p_law_names_here) ([] : List Nm)).bind fun s7 =>
  (n_law_draw p_law_script (p_law_k + (9 : Int)) (2 : Int)).bind fun x8 =>
  ((if (decide (x8 = (1 : Int))) = true then
  (some s7.reverse)
  else (some s7)) : Option ((List Nm))).bind fun s9 =>
  some s9
def n_law_pool (p_law_script : List Int) (p_law_k : Int) (p_law_name : Nm) (p_law_claims : List Nm) (p_law_pots : List Nm) (p_law_others : List Nm) : Option R3 :=
  (fold (fun (x2 : TIS) (s1 : (List TSII)) =>
  (n_law_coins p_law_script ((p_law_k + (20 : Int)) + x2.1)).bind fun x5 =>
  (n_law_coins p_law_script ((p_law_k + (24 : Int)) + x2.1)).bind fun x6 =>
  (push s1 (x2.2, x5, x6)).bind fun x7 =>
  some x7) (enumN 0 p_law_claims) ([] : List TSII)).bind fun s8 =>
  (n_law_draw p_law_script (p_law_k + (1 : Int)) (3 : Int)).bind fun x9 =>
  (fold (fun (x11 : TIS) (s10 : (List R2)) =>
  (n_law_order p_law_script ((p_law_k + ((60 : Int) * x11.1)) + (30 : Int)) x11.2 p_law_claims p_law_pots p_law_others).bind fun x14 =>
  (push s10 x14).bind fun x15 =>
  some x15) (enumN 0 (cutA [(cod "bb"), (cod "ck"), (cod "dd")] none (some ((1 : Int) + x9)))) ([] : List R2)).bind fun s16 =>
  (n_law_draw p_law_script (p_law_k + (2 : Int)) (3 : Int)).bind fun x17 =>
  (rng1  x17).bind fun x18 =>
  (fold (fun (x20 : Int) (s19 : (List TSIS)) =>
  (n_law_draw p_law_script ((p_law_k + (3 : Int)) + x20) (p_law_claims.length : Int)).bind fun x24 =>
  (atI p_law_claims x24).bind fun x25 =>
  (n_law_draw p_law_script ((p_law_k + (5 : Int)) + x20) ((cutA [(cod "bb"), (cod "ck"), (cod "dd")] none (some ((1 : Int) + x9))).length : Int)).bind fun x26 =>
  (atI (cutA [(cod "bb"), (cod "ck"), (cod "dd")] none (some ((1 : Int) + x9))) x26).bind fun x27 =>
  (n_law_draw p_law_script ((p_law_k + (7 : Int)) + x20) (3 : Int)).bind fun x28 =>
  (push s19 (x25, ((1 : Int) + x28), x27)).bind fun x29 =>
  some x29) x18 ([] : List TSIS)).bind fun s30 =>
  (n_law_free s16 p_law_claims).bind fun x31 =>
  (n_law_draw p_law_script (p_law_k + (10 : Int)) (4 : Int)).bind fun x32 =>
  (fold (fun (x34 : TIS) (s33 : (List TSS)) =>
  (if (decide ((0 : Int) < (p_law_pots.length : Int))) = true then
  ((n_law_draw p_law_script ((p_law_k + (11 : Int)) + x34.1) (p_law_pots.length : Int)).bind fun x37 =>
  (atI p_law_pots x37).bind fun x38 =>
  (push s33 (x38, x34.2)).bind fun x39 =>
  some x39)
  else (some s33))) (enumN 0 (cutA x31 none (some x32))) ([] : List TSS)).bind fun s40 =>
  (compO (fun (x41 : TIS) => (n_law_coins p_law_script ((p_law_k + (16 : Int)) + x41.1)).bind fun x42 =>
  some (x41.2, x42)) (enumN 0 p_law_pots)).bind fun c43 =>
  (n_law_some p_law_script (p_law_k + (13 : Int)) p_law_claims).bind fun x44 =>
  some (p_law_name, s8, c43, x44, s16, s30, s40)
def n_law_deal (p_law_script : List Int) (p_law_most : Int) : Option (List R3) :=
  (n_law_names p_law_script).bind fun x1 =>
  (n_law_draw p_law_script (904 : Int) p_law_most).bind fun x2 =>
  (rng1  ((1 : Int) + x2)).bind fun x3 =>
  (fold (fun (x5 : Int) (s4 : (List R3)) =>
  (n_law_draw p_law_script ((905 : Int) + x5) (3 : Int)).bind fun x12 =>
  (atI (cutA x1 (some ((3 : Int) + ((4 : Int) * x5))) (some ((7 : Int) + ((4 : Int) * x5)))) (3 : Int)).bind fun x13 =>
  (atI (cutA x1 (some ((3 : Int) + ((4 : Int) * x5))) (some ((7 : Int) + ((4 : Int) * x5)))) (3 : Int)).bind fun x14 =>
  (catS x14 (cod "h")).bind fun x15 =>
  (n_law_draw p_law_script ((910 : Int) + x5) (3 : Int)).bind fun x16 =>
  (compG (fun (x17 : Nm) =>
  (atI x1 x5).bind fun x18 =>
  (if (!decide (x17 = x18)) = true then (some (some x17)) else some none)) (cutA x1 none (some ((1 : Int) + x2)))).bind fun c19 =>
  (atI x1 x5).bind fun x20 =>
  (n_law_pool p_law_script ((200 : Int) * x5) x20 (cutA (cutA x1 (some ((3 : Int) + ((4 : Int) * x5))) (some ((7 : Int) + ((4 : Int) * x5)))) none (some ((1 : Int) + x12))) (cutA [x13, x15] none (some x16)) c19).bind fun x21 =>
  (push s4 x21).bind fun x22 =>
  some x22) x3 ([] : List R3)).bind fun s23 =>
  some s23
end DK
set_option Elab.async false
set_option linter.all false
set_option maxRecDepth 100000
set_option maxHeartbeats 1000000
namespace DK
open PySem PySem.Spec PyProof.Rows L2 DL
theorem draw_ok (ns : List Int) (k m : Int) (hk : 0 ≤ k ∧ k ≤ 100000) (hm : 1 ≤ m) : Ok (n_law_draw ns k m) fun x => 0 ≤ x ∧ x < m := by
  unfold n_law_draw
  refine ok_bind (Q := fun _ => True) ?_ fun s _ => ?_
  · refine ok_dite (fun h => ?_) (fun h => ok_some trivial)
    refine ok_bind (ok_mod h) fun x hx => ?_
    exact ok_bind (ok_atI (R := fun _ => True) hx.1 hx.2 fun _ _ => trivial) fun _ _ => ok_some trivial
  · refine ok_eq (mulN_r (by omega)) ?_
    have h1 : 0 ≤ 1103 * k * k := Int.mul_nonneg (by omega) hk.1
    have h2 : 1103 * k * k ≤ 110300000 * 100000 := Int.mul_le_mul (by omega) hk.2 hk.1 (by omega)
    refine ok_eq (mulN_r (by omega)) ?_
    exact ok_bind (ok_mod (by omega)) fun x hx => ok_some hx
theorem coins_ok (ns : List Int) (k : Int) (hk : 0 ≤ k ∧ k ≤ 100000) : Ok (n_law_coins ns k) fun x => 1 ≤ x ∧ x ≤ 1000000000000 := by
  unfold n_law_coins
  refine ok_bind (Q := fun _ => True) ?_ fun s _ => ?_
  · refine ok_dite (fun h => ?_) (fun h => ok_some trivial)
    refine ok_bind (ok_mod h) fun x hx => ?_
    exact ok_bind (ok_atI (R := fun _ => True) hx.1 hx.2 fun _ _ => trivial) fun _ _ => ok_some trivial
  · refine ok_bind (draw_ok ns 900 3 (by omega) (by omega)) fun x hx => ?_
    refine ok_dite (fun h => ?_) (fun h => ?_)
    · exact ok_bind (draw_ok ns k 9 hk (by omega)) fun y hy => ok_some (by omega)
    · have h1 : 0 ≤ k * k := Int.mul_nonneg hk.1 hk.1
      have h2 : k * k ≤ 100000 * 100000 := Int.mul_le_mul hk.2 hk.2 hk.1 (by omega)
      refine ok_eq (mulN_r (by omega)) ?_
      refine ok_eq (mulN_b (by omega) (by omega) (by omega) (by omega)) ?_
      refine ok_some ?_
      generalize (s % 10000000000000000000000000000000000000000 + k * k + 1) * 262078551400494415750351 = z
      omega
def lets : List Nat := cod "bcdfgjkmnpqvwxyz"
theorem lets_len : lets.length = 16 := by decide
def nameK (A B : Nm) (f : Int) (k : Int) : Nm := A ++ [lets.getD ((f + k) % 16).toNat 0] ++ B
def namesK (A B : Nm) (f : Int) : List Nm := (List.range 16).map fun (k : Nat) => nameK A B f (k : Int)
theorem lets_inj : ∀ i < 16, ∀ j < 16, lets.getD i 0 = lets.getD j 0 → i = j := by decide +kernel
theorem nameK_inj {A B : Nm} {f i j : Int} (h0 : 0 ≤ i) (h1 : i < 16) (h2 : 0 ≤ j) (h3 : j < 16) (h : nameK A B f i = nameK A B f j) : i = j := by
  unfold nameK at h
  have h := List.append_cancel_right h
  have h := List.append_cancel_left h
  have h : lets.getD ((f + i) % 16).toNat 0 = lets.getD ((f + j) % 16).toNat 0 := by simpa using h
  have := lets_inj _ (by omega) _ (by omega) h
  omega
theorem namesK_nodup (A B : Nm) (f : Int) : (namesK A B f).Nodup := by
  unfold namesK
  rw [List.Nodup, List.pairwise_map]
  refine List.Pairwise.imp_of_mem (fun {a b} ha hb hne e => ?_) (List.nodup_range (n := 16))
  have h1 := List.mem_range.mp ha
  have h2 := List.mem_range.mp hb
  have := nameK_inj (by omega) (by omega) (by omega) (by omega) e
  omega
theorem namesK_len (A B : Nm) (f : Int) : (namesK A B f).length = 16 := by simp [namesK]
theorem lets_low : ∀ c ∈ lets, 97 ≤ c ∧ c ≤ 122 := by decide +kernel
def Low (n : Nm) : Prop := 1 ≤ n.length ∧ n.length ≤ 7 ∧ ∀ c ∈ n, 97 ≤ c ∧ c ≤ 122
theorem names_ok (ns : List Int) : ∃ (A B : Nm) (f : Int), A.length ≤ 2 ∧ B.length ≤ 3 ∧ (∀ c ∈ A ++ B, 97 ≤ c ∧ c ≤ 122) ∧ n_law_names ns = some (namesK A B f) := by
  obtain ⟨d1, h1, a0, a1⟩ := draw_ok ns 901 2 (by omega) (by omega)
  obtain ⟨d2, h2, b0, b1⟩ := draw_ok ns 902 4 (by omega) (by omega)
  obtain ⟨f, h3, f0, f1⟩ := draw_ok ns 903 16 (by omega) (by omega)
  obtain ⟨A, hA, lA, cA⟩ : ∃ A : Nm, repN (cod "zq") d1 = some A ∧ A.length ≤ 2 ∧ ∀ c ∈ A, 97 ≤ c ∧ c ≤ 122 := by
    have : d1 = 0 ∨ d1 = 1 := by omega
    rcases this with rfl | rfl
    · exact ⟨[], by decide, by decide, by decide⟩
    · exact ⟨cod "zq", by decide, by decide, by decide⟩
  obtain ⟨B, hB, lB, cB⟩ : ∃ B : Nm, cutN (cod "vzb") none (some d2) = some B ∧ B.length ≤ 3 ∧ ∀ c ∈ B, 97 ≤ c ∧ c ≤ 122 := by
    have : d2 = 0 ∨ d2 = 1 ∨ d2 = 2 ∨ d2 = 3 := by omega
    rcases this with rfl | rfl | rfl | rfl
    · exact ⟨[], by decide, by decide, by decide⟩
    · exact ⟨cod "v", by decide, by decide, by decide⟩
    · exact ⟨cod "vz", by decide, by decide, by decide⟩
    · exact ⟨cod "vzb", by decide, by decide, by decide⟩
  refine ⟨A, B, f, lA, lB, fun c hc => (List.mem_append.mp hc).elim (cA c) (cB c), ?_⟩
  unfold n_law_names
  rw [h1, bindS, hA, bindS, h2, bindS, hB, bindS, h3, bindS, rng1_eq (by omega) (by omega), bindS]
  rw [compO_eq (g := fun i => nameK A B f i) (by rw [rngN_len]; decide) (fun i hi => ?_)]
  · show some ((rngN 0 16).map _) = some ((List.range 16).map _)
    unfold rngN
    rw [List.map_map]
    refine congrArg some (List.map_congr_left fun k _ => ?_)
    show nameK A B f (0 + (k : Int)) = _
    rw [Int.zero_add]
  · have hi := rngN_mem hi
    have hi : 0 ≤ (f + i) % 16 := by omega
    have hi2 : (f + i) % 16 < (lets.length : Int) := by rw [lets_len]; omega
    obtain ⟨c, _, hc, hc2⟩ := atI_in hi hi2
    have e1 : ixS (cod "bcdfgjkmnpqvwxyz") ((f + i) % 16) = some [lets.getD ((f + i) % 16).toNat 0] := by
      show (if lets.length ≤ 16777216 then (atI lets _).map _ else none) = _
      rw [if_pos (by decide), hc, List.getD_eq_getElem?_getD, hc2]; rfl
    rw [e1, bindS, catS_eq (by simp; omega), bindS, catS_eq (by simp; omega), bindS]; rfl
theorem nameK_low {A B : Nm} {f k : Int} (lA : A.length ≤ 2) (lB : B.length ≤ 3) (h : ∀ c ∈ A ++ B, 97 ≤ c ∧ c ≤ 122) : Low (nameK A B f k) := by
  refine ⟨by simp [nameK]; omega, by simp [nameK]; omega, fun c hc => ?_⟩
  unfold nameK at hc
  rcases List.mem_append.mp hc with hc | hc
  · rcases List.mem_append.mp hc with hc | hc
    · exact h c (by simp [hc])
    · rw [List.mem_singleton.mp hc]
      have hi : ((f + k) % 16).toNat < lets.length := by rw [lets_len]; omega
      rw [List.getD_eq_getElem?_getD, List.getElem?_eq_getElem hi]
      exact lets_low _ (List.getElem_mem hi)
  · exact h c (by simp [hc])
theorem namesK_low {A B : Nm} {f : Int} (lA : A.length ≤ 2) (lB : B.length ≤ 3) (h : ∀ c ∈ A ++ B, 97 ≤ c ∧ c ≤ 122) : ∀ n ∈ namesK A B f, Low n := fun n hn => by
  obtain ⟨k, hk, rfl⟩ := List.mem_map.mp hn
  exact nameK_low lA lB h
inductive Rl
  | pay (c : Nm) | share (cs : List Nm) | repay (c : Nm) | fill (p : Nm) | lend (o : Nm) (x : Int) | back (o : Nm) | rest (c : Nm)
def Rl.d : Rl → D
  | .pay c => eTSS (cod "pay", c)
  | .share cs => eT2 eS (eSq eS) (cod "share", cs)
  | .repay c => eTSS (cod "repay", c)
  | .fill p => eTSS (cod "fill", p)
  | .lend o x => eT3 eS eS D.int (cod "lend", o, x)
  | .back o => eTSS (cod "back", o)
  | .rest c => eTSS (cod "rest", c)
def Rl.In (cs ps os : List Nm) : Rl → Prop
  | .pay c => c ∈ cs
  | .share l => (∀ c ∈ l, c ∈ cs) ∧ l.Nodup ∧ 2 ≤ l.length
  | .repay c => c ∈ cs
  | .fill p => p ∈ ps
  | .lend o x => o ∈ os ∧ 1 ≤ x ∧ x ≤ 1000000000000
  | .back o => o ∈ os
  | .rest _ => False
theorem pick_ok (ns : List Int) (k : Int) (hk : 0 ≤ k ∧ k ≤ 100000) {cs : List Nm} (h0 : 1 ≤ cs.length) {α : Type} {kk : Int → Nm → Option α} {R : α → Prop} (h : ∀ x, ∀ c ∈ cs, Ok (kk x c) R) :
    Ok ((n_law_draw ns k (cs.length : Int)).bind fun x => (atI cs x).bind fun c => kk x c) R := by
  refine ok_bind (draw_ok ns k (cs.length : Int) hk (by omega)) fun x hx => ?_
  obtain ⟨c, hc, e, _⟩ := atI_in hx.1 hx.2
  rw [e]; exact h x c hc
theorem cut2 {cs : List Nm} : cutA cs none (some 2) = cs.take 2 := by
  unfold cutA
  rw [show HT.sIx cs.length 0 none = 0 from rfl, sIx_i (by omega), List.drop_zero, Nat.sub_zero]
  have : (2 : Int).toNat = 2 := rfl
  rw [this]
  by_cases h : cs.length ≤ 2
  · rw [Nat.min_eq_right h, List.take_of_length_le (by omega), List.take_of_length_le h]
  · rw [Nat.min_eq_left (by omega)]
theorem cutL1 {cs : List Nm} (h : 1 ≤ cs.length) : cutA cs (some (-1)) none = cs.drop (cs.length - 1) := by
  unfold cutA
  have e : HT.sIx cs.length 0 (some (-1)) = cs.length - 1 := by unfold HT.sIx; simp; omega
  have e2 : HT.sIx cs.length cs.length none = cs.length := rfl
  rw [e, e2]
  rw [List.take_of_length_le (by rw [List.length_drop]; omega)]
theorem cutR1 {cs : List Nm} (h : 1 ≤ cs.length) : cutA cs none (some (-1)) = cs.take (cs.length - 1) := by
  unfold cutA
  have e : HT.sIx cs.length cs.length (some (-1)) = cs.length - 1 := by unfold HT.sIx; simp; omega
  rw [show HT.sIx cs.length 0 none = 0 from rfl, e]; rfl
theorem rule_ok (ns : List Int) (k : Int) (hk : 0 ≤ k ∧ k ≤ 90000) {cs ps os : List Nm} (h0 : 1 ≤ cs.length) (hn : cs.Nodup) (hl : cs.length ≤ 1000) : Ok (n_law_rule ns k cs ps os) fun d => ∃ r : Rl, d = r.d ∧ r.In cs ps os := by
  unfold n_law_rule
  refine ok_bind (draw_ok ns k 9 (by omega) (by omega)) fun d _ => ?_
  refine pick_ok ns (k + 1) (by omega) h0 fun x c hc => ?_
  refine ok_dite (fun _ => ok_some ⟨.pay c, rfl, hc⟩) (fun _ => ?_)
  refine ok_bind (Q := fun b => b = true → 1 < cs.length) ?_ fun b hb => ?_
  · refine ok_dite (fun _ => ?_) (fun _ => ok_some (fun h => nomatch h))
    refine ok_bind (Q := fun b => b = true → 1 < cs.length) ?_ fun b hb => ok_some hb
    refine ok_dite (fun h => ?_) (fun _ => ok_some (fun h => nomatch h))
    exact ok_bind (draw_ok ns (k + 2) 2 (by omega) (by omega)) fun y _ => ok_some fun _ => by omega
  refine ok_ite (fun hb' => ?_) (fun _ => ?_)
  · have hl := hb hb'
    refine ok_some ⟨.share (cutA cs none (some 2)), rfl, fun c hc => cutA_mem hc, ?_, ?_⟩
    · rw [cut2]; exact hn.sublist (List.take_sublist _ _)
    · rw [cut2, List.length_take]; omega
  refine ok_ite (fun hb' => ?_) (fun _ => ?_)
  · have hl2 : 1 < cs.length := by
      have := (Bool.and_eq_true _ _ ▸ hb').2
      have := of_decide_eq_true this
      omega
    have l1 := cutA_len cs (some (-1)) none
    have l2 := cutA_len cs none (some (-1))
    refine ok_eq (catL_eq (by omega)) ?_
    refine ok_some ⟨.share (cutA cs (some (-1)) none ++ cutA cs none (some (-1))), rfl, fun c hc => (List.mem_append.mp hc).elim cutA_mem cutA_mem, ?_, ?_⟩
    · rw [cutL1 (by omega), cutR1 (by omega)]
      have := List.take_append_drop (cs.length - 1) cs
      refine (List.perm_append_comm.nodup_iff).mp ?_
      rw [this]; exact hn
    · rw [cutL1 (by omega), cutR1 (by omega), List.length_append, List.length_drop, List.length_take]; omega
  refine ok_dite (fun _ => ok_some ⟨.repay c, rfl, hc⟩) (fun _ => ?_)
  refine ok_ite (fun hb' => ?_) (fun _ => ?_)
  · have hp := of_decide_eq_true (Bool.and_eq_true _ _ ▸ hb').2
    exact pick_ok ns (k + 2) (by omega) (by omega) fun x p hp => ok_some ⟨.fill p, rfl, hp⟩
  refine ok_ite (fun hb' => ?_) (fun _ => ok_some ⟨.pay c, rfl, hc⟩)
  have ho := of_decide_eq_true (Bool.and_eq_true _ _ ▸ hb').2
  refine pick_ok ns (k + 2) (by omega) (by omega) fun x o ho => ?_
  refine ok_dite (fun _ => ok_some ⟨.back o, rfl, ho⟩) (fun _ => ?_)
  exact ok_bind (coins_ok ns (k + 3) (by omega)) fun y hy => ok_some ⟨.lend o y, rfl, ho, hy.1, hy.2⟩
def Rl.held : Rl → List Nm
  | .share cs => cs
  | .repay c => [c]
  | _ => []
abbrev TO : Type := Nm × List TSI × List Rl
def TO.d (o : TO) : R2 := (o.1, o.2.1, o.2.2.map Rl.d)
def TO.held (o : TO) : List Nm := o.2.2.flatMap Rl.held
structure TOk (cs ps os : List Nm) (o : TO) : Prop where
  parts : ∀ p ∈ o.2.1, p.1 ∈ cs ∧ 1 ≤ p.2 ∧ p.2 ≤ 10
  sub : (o.2.1.map (·.1)).Sublist cs
  rules : ∃ (rs : List Rl) (c : Nm), o.2.2 = rs ++ [Rl.rest c] ∧ (∀ r ∈ rs, r.In cs ps os) ∧ c ∈ cs ∧ rs.length ≤ 5
theorem order_ok (ns : List Int) (k : Int) (hk : 0 ≤ k ∧ k ≤ 80000) (n : Nm) {cs ps os : List Nm} (h0 : 1 ≤ cs.length) (hn : cs.Nodup) (hl : cs.length ≤ 1000) :
    Ok (n_law_order ns k n cs ps os) fun o => ∃ t : TO, o = t.d ∧ t.1 = n ∧ TOk cs ps os t := by
  unfold n_law_order
  have hlen := enumN_len 0 cs
  refine ok_bind (ok_fold0 (I := fun done pts => (∀ p ∈ pts, p.1 ∈ cs ∧ 1 ≤ p.2 ∧ p.2 ≤ 10) ∧ pts.length ≤ done.length ∧ (pts.map (·.1)).Sublist (done.map (·.2))) ⟨by simp, by simp, by simp⟩ fun pre x post pts hp hi => ?_) fun pts hpts => ?_
  · have hm := enumN_mem (k := 0) (xs := cs) (p := x) (by rw [hp]; simp)
    have hpl : pre.length < cs.length := by
      have := congrArg List.length hp
      simp at this; omega
    refine ok_bind (draw_ok ns (k + x.1) 4 (by omega) (by omega)) fun d _ => ?_
    refine ok_dite (fun _ => ?_) (fun _ => ok_some ⟨hi.1, by rw [List.length_append]; omega, by rw [List.map_append]; exact hi.2.2.trans (List.sublist_append_left _ _)⟩)
    refine ok_bind (draw_ok ns (k + 5 + x.1) 10 (by omega) (by omega)) fun y hy => ?_
    refine ok_eq (push_eq (by omega)) (ok_some ⟨fun p hp => ?_, by simp; omega, ?_⟩)
    · rcases List.mem_append.mp hp with hp | hp
      · exact hi.1 p hp
      · rw [List.mem_singleton.mp hp]; exact ⟨hm.2.2, by show 1 ≤ 1 + y; omega, by show 1 + y ≤ 10; omega⟩
    · rw [List.map_append, List.map_append]; exact hi.2.2.append (List.Sublist.refl _)
  refine ok_bind (draw_ok ns (k + 8) 6 (by omega) (by omega)) fun m hm => ?_
  refine ok_eq (rng1_eq (by omega) (by omega)) ?_
  refine ok_bind (ok_fold0 (I := fun done ds => ∃ rs : List Rl, ds = rs.map Rl.d ∧ (∀ r ∈ rs, r.In cs ps os) ∧ rs.length = done.length) ⟨[], rfl, by simp, rfl⟩ fun pre x post ds hp hi => ?_) fun ds hds => ?_
  · obtain ⟨rs, rfl, h1, h2⟩ := hi
    have hx := rngN_mem (lo := 0) (n := m.toNat) (i := x) (by rw [hp]; simp)
    have hpl : pre.length < 6 := by
      have := congrArg List.length hp
      rw [rngN_len] at this
      simp at this; omega
    refine ok_bind (rule_ok ns (k + 10 + 5 * x) (by omega) h0 hn hl) fun d hd => ?_
    obtain ⟨r, rfl, hr⟩ := hd
    refine ok_eq (push_eq (by rw [List.length_map]; omega)) (ok_some ⟨rs ++ [r], by simp, fun z hz => ?_, by simp [h2]⟩)
    rcases List.mem_append.mp hz with hz | hz
    · exact h1 z hz
    · rw [List.mem_singleton.mp hz]; exact hr
  obtain ⟨rs, rfl, h1, h2⟩ := hds
  rw [rngN_len] at h2
  refine pick_ok ns (k + 9) (by omega) h0 fun x c hc => ?_
  refine ok_eq (catL_eq (by rw [List.length_map]; simp; omega)) (ok_some ⟨(n, pts, rs ++ [Rl.rest c]), ?_, rfl, hpts.1, ?_, rs, c, rfl, h1, hc, by omega⟩)
  · show _ = (n, pts, (rs ++ [Rl.rest c]).map Rl.d)
    rw [List.map_append]; rfl
  have := hpts.2.2
  rw [enumN_snd] at this
  exact this
theorem some_ok (ns : List Int) (k : Int) (hk : 0 ≤ k ∧ k ≤ 80000) (xs : List Nm) (hl : xs.length ≤ 1000) (hn : xs.Nodup) : Ok (n_law_some ns k xs) fun ys => ys.Nodup ∧ (∀ y ∈ ys, y ∈ xs) ∧ ys.length ≤ xs.length := by
  unfold n_law_some
  refine ok_bind (ok_fold0 (I := fun done ys => ys.Sublist (done.map (·.2))) (by simp) fun pre x post ys hp hi => ?_) fun ys hys => ?_
  · have hm := enumN_mem (k := 0) (xs := xs) (p := x) (by rw [hp]; simp)
    have hpl : pre.length < xs.length := by
      have := congrArg List.length hp
      rw [enumN_len] at this
      simp at this; omega
    have hyl := hi.length_le
    rw [List.length_map] at hyl
    refine ok_bind (draw_ok ns (k + x.1) 3 (by omega) (by omega)) fun d _ => ?_
    refine ok_dite (fun _ => ?_) (fun _ => ok_some (by rw [List.map_append]; exact hi.trans (List.sublist_append_left _ _)))
    exact ok_eq (push_eq (by omega)) (ok_some (by rw [List.map_append]; exact hi.append (List.Sublist.refl _)))
  rw [enumN_snd] at hys
  refine ok_bind (draw_ok ns (k + 9) 2 (by omega) (by omega)) fun d _ => ?_
  refine ok_bind (Q := fun zs => zs.Nodup ∧ (∀ y ∈ zs, y ∈ xs) ∧ zs.length ≤ xs.length) ?_ fun zs hz => ok_some hz
  have h1 : ys.Nodup := hn.sublist hys
  refine ok_dite (fun _ => ok_some ⟨?_, fun y hy => hys.subset (List.mem_reverse.mp hy), ?_⟩) (fun _ => ok_some ⟨h1, fun y hy => hys.subset hy, hys.length_le⟩)
  · exact List.pairwise_reverse.mpr (List.Pairwise.imp (fun h => Ne.symm h) h1)
  · rw [List.length_reverse]; exact hys.length_le
theorem ixD_0 (r : Rl) : ∃ w : Nm, ixD r.d 0 = some (eS w) ∧ (w = cod "share" ↔ ∃ cs, r = .share cs) ∧ (w = cod "repay" ↔ ∃ c, r = .repay c) := by
  cases r with
  | pay c => exact ⟨cod "pay", rfl, ⟨fun h => absurd h (by decide), fun ⟨_, h⟩ => nomatch h⟩, ⟨fun h => absurd h (by decide), fun ⟨_, h⟩ => nomatch h⟩⟩
  | share cs => exact ⟨cod "share", rfl, ⟨fun _ => ⟨_, rfl⟩, fun _ => rfl⟩, ⟨fun h => absurd h (by decide), fun ⟨_, h⟩ => nomatch h⟩⟩
  | repay c => exact ⟨cod "repay", rfl, ⟨fun h => absurd h (by decide), fun ⟨_, h⟩ => nomatch h⟩, ⟨fun _ => ⟨_, rfl⟩, fun _ => rfl⟩⟩
  | fill c => exact ⟨cod "fill", rfl, ⟨fun h => absurd h (by decide), fun ⟨_, h⟩ => nomatch h⟩, ⟨fun h => absurd h (by decide), fun ⟨_, h⟩ => nomatch h⟩⟩
  | lend c x => exact ⟨cod "lend", rfl, ⟨fun h => absurd h (by decide), fun ⟨_, h⟩ => nomatch h⟩, ⟨fun h => absurd h (by decide), fun ⟨_, h⟩ => nomatch h⟩⟩
  | back c => exact ⟨cod "back", rfl, ⟨fun h => absurd h (by decide), fun ⟨_, h⟩ => nomatch h⟩, ⟨fun h => absurd h (by decide), fun ⟨_, h⟩ => nomatch h⟩⟩
  | rest c => exact ⟨cod "rest", rfl, ⟨fun h => absurd h (by decide), fun ⟨_, h⟩ => nomatch h⟩, ⟨fun h => absurd h (by decide), fun ⟨_, h⟩ => nomatch h⟩⟩
theorem TOk.all {cs ps os : List Nm} {o : TO} (h : TOk cs ps os o) : (∀ r ∈ o.2.2, r.In cs ps os ∨ ∃ c ∈ cs, r = .rest c) ∧ o.2.2.length ≤ 6 := by
  obtain ⟨rs, c, e, h1, h2, h3⟩ := h.rules
  rw [e]
  refine ⟨fun r hr => ?_, by simp; omega⟩
  rcases List.mem_append.mp hr with hr | hr
  · exact .inl (h1 r hr)
  · exact .inr ⟨c, h2, List.mem_singleton.mp hr⟩
theorem held_len {cs ps os : List Nm} {r : Rl} (hl : cs.length ≤ 1000) (h : r.In cs ps os ∨ ∃ c ∈ cs, r = .rest c) : r.held.length ≤ 1000 := by
  rcases h with h | ⟨c, _, rfl⟩
  · cases r with
    | share l =>
      have : ∀ (l cs : List Nm), l.Nodup → (∀ c ∈ l, c ∈ cs) → l.length ≤ cs.length := fun l => by
        induction l with
        | nil => intro cs _ _; simp
        | cons x l ih =>
          intro cs hn hs
          have hx := hs x (by simp)
          have := ih (cs.erase x) (List.nodup_cons.mp hn).2 (fun c hc => by
            have hne : c ≠ x := fun e => (List.nodup_cons.mp hn).1 (e ▸ hc)
            exact (List.mem_erase_of_ne hne).mpr (hs c (by simp [hc])))
          rw [List.length_erase_of_mem hx] at this
          have : 1 ≤ cs.length := List.length_pos_of_mem hx
          rw [List.length_cons]; omega
      exact Nat.le_trans (this l cs h.2.1 h.1) hl
    | repay c => simp [Rl.held]
    | _ => simp [Rl.held]
  · simp [Rl.held]
def freeStep (x8 : D) (s7 : List D) : Option (List D) :=
  (ixD x8 (0 : Int)).bind fun x10 =>
  (eqQ (eD x10) (eS (cod "share"))).bind fun x11 =>
  ((if x11 = true then
  ((ixD x8 (1 : Int)).bind fun x12 =>
  (itemsT (.p x12)).bind fun x13 =>
  (catL s7 x13).bind fun x14 =>
  some x14)
  else (some s7)) : Option ((List D))).bind fun s15 =>
  (ixD x8 (0 : Int)).bind fun x16 =>
  (eqQ (eD x16) (eS (cod "repay"))).bind fun x17 =>
  (if x17 = true then
  ((ixD x8 (1 : Int)).bind fun x18 =>
  (push s15 x18).bind fun x19 =>
  some x19)
  else (some s15))
theorem eqQ_f {a b : Nm} (h : ¬ a = b) : eqQ (eS a) (eS b) = some false := by rw [eqQ_g, decide_eq_false h]
theorem eqQ_t {a : Nm} : eqQ (eS a) (eS a) = some true := by rw [eqQ_g, decide_eq_true rfl]
theorem free_step (r : Rl) (ls : List Nm) (h1 : ls.length ≤ 8000000) (h2 : r.held.length ≤ 1000) : freeStep r.d (ls.map eS) = some ((ls ++ r.held).map eS) := by
  have hn : ∀ (w : Nm) (x : D), ¬ w = cod "share" → ¬ w = cod "repay" → freeStep (.tup [eS w, x]) (ls.map eS) = some (ls.map eS) := fun w x ha hb => by
    show Option.bind (some _) _ = _
    rw [bindS, eqQ_f ha, bindS]
    show Option.bind (some _) _ = _
    rw [bindS]
    show Option.bind (some _) _ = _
    rw [bindS, eqQ_f hb, bindS]; rfl
  cases r with
  | pay c => rw [show (Rl.pay c).held = [] from rfl, List.append_nil]; exact hn (cod "pay") _ (by decide) (by decide)
  | fill c => rw [show (Rl.fill c).held = [] from rfl, List.append_nil]; exact hn (cod "fill") _ (by decide) (by decide)
  | back c => rw [show (Rl.back c).held = [] from rfl, List.append_nil]; exact hn (cod "back") _ (by decide) (by decide)
  | rest c => rw [show (Rl.rest c).held = [] from rfl, List.append_nil]; exact hn (cod "rest") _ (by decide) (by decide)
  | lend c x =>
    rw [show (Rl.lend c x).held = [] from rfl, List.append_nil]
    show Option.bind (some _) _ = _
    rw [bindS, eqQ_f (show ¬ cod "lend" = cod "share" by decide), bindS]
    show Option.bind (some _) _ = _
    rw [bindS]
    show Option.bind (some _) _ = _
    rw [bindS, eqQ_f (show ¬ cod "lend" = cod "repay" by decide), bindS]; rfl
  | share l =>
    have h2 : l.length ≤ 1000 := h2
    have e0 : ixD (Rl.share l).d 0 = some (eS (cod "share")) := rfl
    have e1 : ixD (Rl.share l).d 1 = some (eSq eS l) := rfl
    have e2 : itemsT (.p (eSq eS l)) = some (l.map eS) := rfl
    unfold freeStep
    rw [e0, bindS, eqQ_t, bindS, if_pos rfl, e1, bindS, e2, bindS, catL_eq (by rw [List.length_map, List.length_map]; omega), bindS, bindS, bindS, eqQ_f (show ¬ cod "share" = cod "repay" by decide), bindS, if_neg (by simp), List.map_append]; rfl
  | repay c =>
    have e0 : ixD (Rl.repay c).d 0 = some (eS (cod "repay")) := rfl
    have e1 : ixD (Rl.repay c).d 1 = some (eS c) := rfl
    unfold freeStep
    rw [e0, bindS, eqQ_f (show ¬ cod "repay" = cod "share" by decide), bindS, if_neg (by simp), bindS, bindS, eqQ_t, bindS, if_pos rfl, e1, bindS, push_eq (by rw [List.length_map]; omega), bindS, List.map_append]; rfl
theorem free_fold : ∀ (rs : List Rl) (ls : List Nm) (b : Nat), ls.length + 1000 * rs.length ≤ b → b ≤ 8000000 → (∀ r ∈ rs, r.held.length ≤ 1000) → fold freeStep (rs.map Rl.d) (ls.map eS) = some ((ls ++ rs.flatMap Rl.held).map eS)
  | [], ls, b, _, _, _ => by simp [fold]
  | r :: rs, ls, b, h1, h2, h3 => by
    rw [List.length_cons] at h1
    have hr := h3 r (by simp)
    rw [List.map_cons]
    show (freeStep r.d (ls.map eS)).bind _ = _
    rw [free_step r ls (by omega) hr, bindS, free_fold rs (ls ++ r.held) b (by rw [List.length_append]; omega) h2 fun x hx => h3 x (by simp [hx])]
    simp
theorem inQ_w (c : Nm) (ls : List Nm) : inQ (eS c) (eLs eD (ls.map eS)) = some (decide (c ∈ ls)) := by
  show inQ (eS c) (.lst ((ls.map eS).map eD)) = _
  rw [show (eD : D → D) = id from rfl, List.map_id]
  exact g_inL c ls
theorem free_ok (orders : List TO) (cs ps os : List Nm) (hl : cs.length ≤ 1000) (ho : orders.length ≤ 10) (h : ∀ o ∈ orders, TOk cs ps os o) :
    n_law_free (orders.map TO.d) cs = some (cs.filter fun c => !decide (c ∈ orders.flatMap TO.held)) := by
  have go : ∀ (os2 : List TO) (ls : List Nm) (b : Nat), ls.length + 10000 * os2.length ≤ b → b ≤ 7000000 → (∀ o ∈ os2, TOk cs ps os o) → fold (fun (x2 : R2) (s1 : List D) => (fold freeStep x2.2.2 s1).bind fun s20 => some s20) (os2.map TO.d) (ls.map eS) = some ((ls ++ os2.flatMap TO.held).map eS) := by
    intro os2
    induction os2 with
    | nil => intro ls b _ _ _; simp [fold]
    | cons o os2 ih =>
      intro ls b h1 h2 h3
      rw [List.length_cons] at h1
      obtain ⟨e2, e3⟩ := (h3 o (by simp)).all
      have hh : ∀ r ∈ o.2.2, r.held.length ≤ 1000 := fun r hr => held_len hl (e2 r hr)
      have hlen : o.held.length ≤ 6000 := by
        have : ∀ rs : List Rl, (∀ r ∈ rs, r.held.length ≤ 1000) → (rs.flatMap Rl.held).length ≤ 1000 * rs.length := fun rs => by
          induction rs with
          | nil => intro _; simp
          | cons r rs ih =>
            intro hr
            have a := hr r (by simp)
            have b := ih fun x hx => hr x (by simp [hx])
            rw [List.flatMap_cons, List.length_append, List.length_cons]; omega
        have := this _ hh
        show (o.2.2.flatMap Rl.held).length ≤ 6000
        omega
      show Option.bind ((fold freeStep (o.2.2.map Rl.d) (ls.map eS)).bind _) _ = _
      rw [free_fold o.2.2 ls 8000000 (by omega) (by omega) hh, bindS, bindS]
      show fold _ (os2.map TO.d) ((ls ++ o.held).map eS) = _
      rw [ih (ls ++ o.held) b (by rw [List.length_append]; omega) h2 fun x hx => h3 x (by simp [hx])]
      simp
  have hf := go orders [] 100000 (by simp; omega) (by omega) h
  rw [List.nil_append] at hf
  show Option.bind (fold (fun (x2 : R2) (s1 : List D) => (fold freeStep x2.2.2 s1).bind fun s20 => some s20) (orders.map TO.d) ([] : List D)) _ = _
  rw [show ([] : List D) = ([] : List Nm).map eS from rfl, hf, bindS]
  rw [compG_eq (p := fun c => !decide (c ∈ orders.flatMap TO.held)) (g := fun c => c) (by omega) (fun c hc => by rw [inQ_w, bindS]; split <;> rfl), bindS, List.map_id']
abbrev TP : Type := Nm × (List TSII) × (List TSI) × (List Nm) × (List TO) × (List TSIS) × (List TSS)
def TP.d (p : TP) : R3 := (p.1, p.2.1, p.2.2.1, p.2.2.2.1, p.2.2.2.2.1.map TO.d, p.2.2.2.2.2.1, p.2.2.2.2.2.2)
def onames : List Nm := [cod "bb", cod "ck", cod "dd"]
structure PoolOk (cs ps os : List Nm) (p : TP) : Prop where
  claims : p.2.1.map (·.1) = cs
  sizes : ∀ c ∈ p.2.1, (1 ≤ c.2.1 ∧ c.2.1 ≤ 1000000000000) ∧ 1 ≤ c.2.2 ∧ c.2.2 ≤ 1000000000000
  pots : p.2.2.1.map (·.1) = ps
  marks : ∀ c ∈ p.2.2.1, 1 ≤ c.2 ∧ c.2 ≤ 1000000000000
  eat : p.2.2.2.1.Nodup ∧ ∀ c ∈ p.2.2.2.1, c ∈ cs
  orders : ∀ o ∈ p.2.2.2.2.1, TOk cs ps os o
  onames : ∃ k, 1 ≤ k ∧ k ≤ 3 ∧ p.2.2.2.2.1.map (·.1) = onames.take k
  looks : ∀ l ∈ p.2.2.2.2.2.1, l.1 ∈ cs ∧ (1 ≤ l.2.1 ∧ l.2.1 ≤ 3) ∧ l.2.2 ∈ p.2.2.2.2.1.map (·.1)
  lookn : p.2.2.2.2.2.1.length ≤ 2
  guards : ∀ g ∈ p.2.2.2.2.2.2, g.1 ∈ ps ∧ g.2 ∈ cs ∧ g.2 ∉ p.2.2.2.2.1.flatMap TO.held
  guardn : (p.2.2.2.2.2.2.map (·.2)).Nodup ∧ p.2.2.2.2.2.2.length ≤ 3
theorem cutTake {α : Type} {xs : List α} {k : Int} (h : 0 ≤ k) : cutA xs none (some k) = xs.take k.toNat := by
  unfold cutA
  rw [show HT.sIx xs.length 0 none = 0 from rfl, sIx_i h, List.drop_zero, Nat.sub_zero]
  by_cases h : xs.length ≤ k.toNat
  · rw [Nat.min_eq_right h, List.take_of_length_le (by omega), List.take_of_length_le h]
  · rw [Nat.min_eq_left (by omega)]
theorem pool_ok (ns : List Int) (k : Int) (hk : 0 ≤ k ∧ k ≤ 70000) (n : Nm) {cs ps os : List Nm} (h0 : 1 ≤ cs.length) (hn : cs.Nodup) (hl : cs.length ≤ 3) (hp : ps.length ≤ 2) :
    Ok (n_law_pool ns k n cs ps os) fun p => ∃ t : TP, p = t.d ∧ t.1 = n ∧ PoolOk cs ps os t := by
  unfold n_law_pool
  refine ok_bind (ok_fold0 (I := fun done xs => xs.map (·.1) = done.map (·.2) ∧ ∀ c ∈ xs, (1 ≤ c.2.1 ∧ c.2.1 ≤ 1000000000000) ∧ 1 ≤ c.2.2 ∧ c.2.2 ≤ 1000000000000) ⟨rfl, by simp⟩ fun pre x post xs hp hi => ?_) fun told htold => ?_
  · have hm := enumN_mem (k := 0) (xs := cs) (p := x) (by rw [hp]; simp)
    have hxl : xs.length < 4 := by
      have := congrArg List.length hp
      rw [enumN_len] at this
      have h2 := congrArg List.length hi.1
      simp at this h2; omega
    refine ok_bind (coins_ok ns (k + 20 + x.1) (by omega)) fun y hy => ?_
    refine ok_bind (coins_ok ns (k + 24 + x.1) (by omega)) fun z hz => ?_
    refine ok_eq (push_eq (by omega)) (ok_some ⟨by rw [List.map_append, List.map_append, hi.1]; rfl, fun c hc => ?_⟩)
    rcases List.mem_append.mp hc with hc | hc
    · exact hi.2 c hc
    · rw [List.mem_singleton.mp hc]; exact ⟨hy, hz⟩
  rw [enumN_snd] at htold
  refine ok_bind (draw_ok ns (k + 1) 3 (by omega) (by omega)) fun d hd => ?_
  have hcut : cutA [cod "bb", cod "ck", cod "dd"] none (some (1 + d)) = onames.take (1 + d).toNat := cutTake (by omega)
  rw [hcut]
  have hcl : (onames.take (1 + d).toNat).length = (1 + d).toNat := by rw [List.length_take]; show min _ 3 = _; omega
  refine ok_bind (ok_fold0 (I := fun done xs => ∃ ts : List TO, xs = ts.map TO.d ∧ ts.map (·.1) = done.map (·.2) ∧ ∀ o ∈ ts, TOk cs ps os o) ⟨[], rfl, rfl, by simp⟩ fun pre x post xs hp hi => ?_) fun orders horders => ?_
  · obtain ⟨ts, rfl, h1, h2⟩ := hi
    have hm := enumN_mem (k := 0) (xs := onames.take (1 + d).toNat) (p := x) (by rw [hp]; simp)
    have hxl : ts.length < 4 := by
      have := congrArg List.length hp
      rw [enumN_len, hcl] at this
      have h2 := congrArg List.length h1
      simp at this h2; omega
    rw [hcl] at hm
    refine ok_bind (order_ok ns (k + 60 * x.1 + 30) (by omega) x.2 h0 hn (by omega)) fun o ho => ?_
    obtain ⟨t, rfl, e, ht⟩ := ho
    refine ok_eq (push_eq (by rw [List.length_map]; omega)) (ok_some ⟨ts ++ [t], by simp, by rw [List.map_append, List.map_append, h1, List.map_singleton, e]; rfl, fun c hc => ?_⟩)
    rcases List.mem_append.mp hc with hc | hc
    · exact h2 c hc
    · rw [List.mem_singleton.mp hc]; exact ht
  obtain ⟨ts, rfl, ho1, ho2⟩ := horders
  rw [enumN_snd] at ho1
  have htl : ts.length ≤ 3 := by
    have := congrArg List.length ho1
    rw [hcl, List.length_map] at this
    omega
  refine ok_bind (draw_ok ns (k + 2) 3 (by omega) (by omega)) fun m hm => ?_
  refine ok_eq (rng1_eq (by omega) (by omega)) ?_
  refine ok_bind (ok_fold0 (I := fun done ls => ls.length = done.length ∧ ∀ l ∈ ls, l.1 ∈ cs ∧ (1 ≤ l.2.1 ∧ l.2.1 ≤ 3) ∧ l.2.2 ∈ onames.take (1 + d).toNat) ⟨rfl, by simp⟩ fun pre x post ls hp hi => ?_) fun looks hlooks => ?_
  · have hx := rngN_mem (lo := 0) (n := m.toNat) (i := x) (by rw [hp]; simp)
    have hpl : pre.length < 3 := by
      have := congrArg List.length hp
      rw [rngN_len] at this
      simp at this; omega
    refine pick_ok ns (k + 3 + x) (by omega) h0 fun _ c hc => ?_
    refine pick_ok ns (k + 5 + x) (by omega) (by rw [hcl]; omega) fun _ o ho => ?_
    refine ok_bind (draw_ok ns (k + 7 + x) 3 (by omega) (by omega)) fun y hy => ?_
    refine ok_eq (push_eq (by omega)) (ok_some ⟨by simp [hi.1], fun l hl => ?_⟩)
    rcases List.mem_append.mp hl with hl | hl
    · exact hi.2 l hl
    · rw [List.mem_singleton.mp hl]; exact ⟨hc, ⟨by show 1 ≤ 1 + y; omega, by show 1 + y ≤ 3; omega⟩, ho⟩
  rw [rngN_len] at hlooks
  rw [free_ok ts cs ps os (by omega) (by omega) ho2, bindS]
  refine ok_bind (draw_ok ns (k + 10) 4 (by omega) (by omega)) fun g hg => ?_
  rw [cutTake (by omega)]
  refine ok_bind (ok_fold0 (I := fun done gs => (gs.map (·.2)).Sublist (done.map (·.2)) ∧ ∀ g ∈ gs, g.1 ∈ ps ∧ g.2 ∈ done.map (·.2)) ⟨by simp, by simp⟩ fun pre x post gs hp hi => ?_) fun guards hguards => ?_
  · have hm := enumN_mem (p := x) (by rw [hp]; simp)
    have hpl : gs.length < 4 := by
      have h2 := hi.1.length_le
      have := congrArg List.length hp
      rw [enumN_len, List.length_take] at this
      simp at this h2; omega
    have hm1 : x.1 < 4 := by
      have := hm.2.1
      rw [List.length_take] at this
      omega
    refine ok_dite (fun h => ?_) (fun h => ok_some ⟨by rw [List.map_append]; exact hi.1.trans (List.sublist_append_left _ _), fun g hg => ⟨(hi.2 g hg).1, by rw [List.map_append]; exact List.mem_append_left _ (hi.2 g hg).2⟩⟩)
    refine pick_ok ns (k + 11 + x.1) (by omega) (by omega) fun _ p hp2 => ?_
    refine ok_eq (push_eq (by omega)) (ok_some ⟨by rw [List.map_append, List.map_append]; exact hi.1.append (List.Sublist.refl _), fun g hg => ?_⟩)
    rcases List.mem_append.mp hg with hg | hg
    · exact ⟨(hi.2 g hg).1, by rw [List.map_append]; exact List.mem_append_left _ (hi.2 g hg).2⟩
    · rw [List.mem_singleton.mp hg]; exact ⟨hp2, by simp⟩
  rw [enumN_snd] at hguards
  refine ok_bind (o := compO _ _) (Q := fun ms => ms.map (·.1) = ps ∧ ∀ c ∈ ms, 1 ≤ c.2 ∧ c.2 ≤ 1000000000000) ?_ fun marks hmarks => ?_
  · have go : ∀ (j : Nat) (qs : List Nm), j + qs.length ≤ 100 → Ok (mapO (fun (x41 : TIS) => (n_law_coins ns ((k + 16) + x41.1)).bind fun x42 => some (x41.2, x42)) (enumN j qs)) fun ms => ms.map (·.1) = qs ∧ ∀ c ∈ ms, 1 ≤ c.2 ∧ c.2 ≤ 1000000000000 := by
      intro j qs
      induction qs generalizing j with
      | nil => intro _; exact ok_some ⟨rfl, by simp⟩
      | cons q qs ih =>
        intro hj
        rw [List.length_cons] at hj
        obtain ⟨y, hy, hy2⟩ := coins_ok ns (k + 16 + (j : Int)) (by omega)
        show Ok (Option.bind (Option.bind _ _) _) _
        rw [hy, bindS, bindS]
        obtain ⟨ms, h1, h2, h3⟩ := ih (j + 1) (by omega)
        rw [h1]
        refine ok_some ⟨by rw [List.map_cons, h2], fun c hc => ?_⟩
        rcases List.mem_cons.mp hc with rfl | hc
        · exact hy2
        · exact h3 c hc
    unfold compO
    rw [if_pos (by rw [enumN_len]; omega)]
    exact go 0 ps (by omega)
  refine ok_bind (some_ok ns (k + 13) (by omega) cs (by omega) hn) fun eat heat => ok_some ⟨(n, told, marks, eat, ts, looks, guards), rfl, rfl, ?_⟩
  have hfree : (cs.filter fun c => !decide (c ∈ ts.flatMap TO.held)).Nodup := hn.sublist (List.filter_sublist)
  refine ⟨htold.1, htold.2, hmarks.1, hmarks.2, ⟨heat.1, heat.2.1⟩, ho2, ⟨(1 + d).toNat, by omega, by omega, ho1⟩, fun l hl => ⟨(hlooks.2 l hl).1, (hlooks.2 l hl).2.1, ?_⟩, by show looks.length ≤ 2; omega, fun gg hgg => ?_, ?_, ?_⟩
  · show l.2.2 ∈ ts.map (·.1)
    rw [ho1]; exact (hlooks.2 l hl).2.2
  · obtain ⟨q1, q2⟩ := hguards.2 gg hgg
    have q3 := List.mem_filter.mp (List.mem_of_mem_take q2)
    refine ⟨q1, q3.1, ?_⟩
    have := q3.2
    simpa using this
  · exact (hfree.sublist (List.take_sublist _ _)).sublist hguards.1
  · have := hguards.1.length_le
    rw [List.length_take, List.length_map] at this
    show guards.length ≤ 3
    omega
end DK
set_option Elab.async false
set_option linter.all false
set_option maxRecDepth 100000
set_option maxHeartbeats 1000000
namespace DK
open PySem PySem.Spec PyProof.Rows L2 DL
theorem cutMid {α : Type} {xs : List α} {a b : Int} (h0 : 0 ≤ a) (h1 : a ≤ b) (h2 : b ≤ xs.length) : cutA xs (some a) (some b) = (xs.drop a.toNat).take (b.toNat - a.toNat) := by
  unfold cutA
  rw [sIx_i h0, sIx_i (by omega), Nat.min_eq_left (by omega), Nat.min_eq_left (by omega)]
theorem getD_of {α : Type} {xs : List α} {i : Int} (d : α) (h0 : 0 ≤ i) (h1 : i < xs.length) : atI xs i = some (xs.getD i.toNat d) := by
  obtain ⟨x, _, e, e2⟩ := atI_in h0 h1
  rw [e, List.getD_eq_getElem?_getD, e2]; rfl
def claimsAt (N : List Nm) (k c : Nat) : List Nm := (N.drop (3 + 4 * k)).take c
def potsAt (N : List Nm) (k p : Nat) : List Nm := [N.getD (6 + 4 * k) [], N.getD (6 + 4 * k) [] ++ cod "h"].take p
def othersAt (N : List Nm) (k m : Nat) : List Nm := (N.take m).filter fun x => !decide (x = N.getD k [])
structure PoolAt (N : List Nm) (m k : Nat) (t : TP) : Prop where
  name : t.1 = N.getD k []
  ok : ∃ c p, 1 ≤ c ∧ c ≤ 3 ∧ p ≤ 2 ∧ PoolOk (claimsAt N k c) (potsAt N k p) (othersAt N k m) t
structure DealOk (most : Nat) (ts : List TP) : Prop where
  names : ∃ N : List Nm, N.Nodup ∧ N.length = 16 ∧ (∀ n ∈ N, Low n) ∧ 1 ≤ ts.length ∧ ts.length ≤ most ∧ ∀ k t, ts[k]? = some t → PoolAt N ts.length k t
def PotsApart (ts : List TP) : Prop := ∀ (j k : Nat) u v, j ≠ k → ts[j]? = some u → ts[k]? = some v → ∀ x ∈ u.2.2.1.map (·.1), x ∉ v.2.2.1.map (·.1)
theorem potsAt_apart {N : List Nm} {L : Nat} (hnd : N.Nodup) (hlen : N.length = 16) (hL : ∀ n ∈ N, n.length = L) {j k p q : Nat} (hj : j ≤ 2) (hk : k ≤ 2) (hne : j ≠ k) : ∀ x ∈ potsAt N j p, x ∉ potsAt N k q := fun x hx hy => by
  have hh : (cod "h").length = 1 := by decide
  have hx := List.mem_of_mem_take hx
  have hy := List.mem_of_mem_take hy
  have g1 : N.getD (6 + 4 * j) [] = N[6 + 4 * j]'(by omega) := by rw [List.getD_eq_getElem?_getD, List.getElem?_eq_getElem (by omega)]; rfl
  have g2 : N.getD (6 + 4 * k) [] = N[6 + 4 * k]'(by omega) := by rw [List.getD_eq_getElem?_getD, List.getElem?_eq_getElem (by omega)]; rfl
  have l1 := hL _ (List.getElem_mem (show 6 + 4 * j < N.length by omega))
  have l2 := hL _ (List.getElem_mem (show 6 + 4 * k < N.length by omega))
  rw [g1] at hx
  rw [g2] at hy
  have hn : N[6 + 4 * j]'(by omega) ≠ N[6 + 4 * k]'(by omega) := fun e => hne (by have := (List.getElem_inj hnd).mp e; omega)
  simp only [List.mem_cons, List.not_mem_nil, or_false] at hx hy
  rcases hx with rfl | rfl <;> rcases hy with e | e
  · exact hn e
  · have := congrArg List.length e
    rw [List.length_append] at this; omega
  · have := congrArg List.length e
    rw [List.length_append] at this; omega
  · exact hn (List.append_cancel_right e)
theorem deal_okD (ns : List Int) (most : Int) (hm : 1 ≤ most ∧ most ≤ 3) : Ok (n_law_deal ns most) fun d => ∃ ts : List TP, d = ts.map TP.d ∧ DealOk most.toNat ts ∧ PotsApart ts := by
  unfold n_law_deal
  obtain ⟨A, B, f, lA, lB, lc, hN⟩ := names_ok ns
  rw [hN, bindS]
  have hlen := namesK_len A B f
  have hnd := namesK_nodup A B f
  have hlow := namesK_low (f := f) lA lB lc
  have hleq : ∀ n ∈ namesK A B f, n.length = A.length + 1 + B.length := fun n hn => by
    obtain ⟨k, hk, rfl⟩ := List.mem_map.mp hn
    unfold nameK
    rw [List.length_append, List.length_append]; rfl
  generalize namesK A B f = N at *
  refine ok_bind (draw_ok ns 904 most (by omega) (by omega)) fun d hd => ?_
  refine ok_eq (rng1_eq (by omega) (by omega)) ?_
  refine ok_bind (ok_fold0 (I := fun done xs => ∃ ts : List TP, xs = ts.map TP.d ∧ ts.length = done.length ∧ ∀ k t, ts[k]? = some t → PoolAt N (1 + d).toNat k t) ⟨[], rfl, rfl, by simp⟩ fun pre x post xs hp hi => ?_) fun deal hdeal => ?_
  · obtain ⟨ts, rfl, h1, h2⟩ := hi
    have hplen : pre.length + (post.length + 1) = (1 + d).toNat := by
      have := congrArg List.length hp
      rw [rngN_len, List.length_append, List.length_cons] at this
      omega
    have hx : x = (pre.length : Int) := by
      have e := congrArg (fun l => l[pre.length]?) hp
      unfold rngN at e
      simp only [List.getElem?_append_right (Nat.le_refl _), Nat.sub_self, List.getElem?_cons_zero] at e
      rw [List.getElem?_map, List.getElem?_range (by omega)] at e
      have := Option.some.inj (show some ((0 : Int) + (pre.length : Int)) = some x from e)
      omega
    subst hx
    have hpl : pre.length ≤ 2 := by omega
    rw [cutMid (by omega) (by omega) (by omega)]
    have hc4 : ((N.drop (3 + 4 * (pre.length : Int)).toNat).take ((7 + 4 * (pre.length : Int)).toNat - (3 + 4 * (pre.length : Int)).toNat)) = (N.drop (3 + 4 * pre.length)).take 4 := by
      rw [show (7 + 4 * (pre.length : Int)).toNat - (3 + 4 * (pre.length : Int)).toNat = 4 by omega, show (3 + 4 * (pre.length : Int)).toNat = 3 + 4 * pre.length by omega]
    rw [hc4]
    have hl4 : ((N.drop (3 + 4 * pre.length)).take 4).length = 4 := by rw [List.length_take, List.length_drop]; omega
    refine ok_bind (draw_ok ns (905 + (pre.length : Int)) 3 (by omega) (by omega)) fun c hc => ?_
    have hp3 : atI ((N.drop (3 + 4 * pre.length)).take 4) 3 = some (N.getD (6 + 4 * pre.length) []) := by
      rw [getD_of [] (by omega) (by rw [hl4]; omega)]
      congr 1
      rw [List.getD_eq_getElem?_getD, List.getD_eq_getElem?_getD, List.getElem?_take_of_lt (by omega), List.getElem?_drop]
      congr 2
      show 3 + 4 * pre.length + 3 = _
      omega
    rw [hp3, bindS, bindS]
    have hlw : (N.getD (6 + 4 * pre.length) []).length ≤ 7 := by
      rw [List.getD_eq_getElem?_getD, List.getElem?_eq_getElem (by omega)]
      exact (hlow _ (List.getElem_mem (by omega))).2.1
    rw [catS_eq (by have : (cod "h").length = 1 := by decide
                    omega), bindS]
    refine ok_bind (draw_ok ns (910 + (pre.length : Int)) 3 (by omega) (by omega)) fun p hp2 => ?_
    have hat : atI N (pre.length : Int) = some (N.getD pre.length []) := by rw [getD_of [] (by omega) (by omega)]; rfl
    rw [cutTake (by omega), cutTake (by omega), cutTake (by omega)]
    rw [compG_eq (p := fun x => !decide (x = N.getD pre.length [])) (g := fun x => x) (by rw [List.length_take]; omega) (fun y hy => by rw [hat, bindS]; split <;> rfl), bindS, hat, bindS, List.map_id']
    have hcs : (((N.drop (3 + 4 * pre.length)).take 4).take (1 + c).toNat) = claimsAt N pre.length (1 + c).toNat := by
      unfold claimsAt
      rw [List.take_take, Nat.min_eq_left (by omega)]
    rw [hcs]
    have hcl : (claimsAt N pre.length (1 + c).toNat).length = (1 + c).toNat := by
      unfold claimsAt
      rw [List.length_take, List.length_drop]; omega
    have hcn : (claimsAt N pre.length (1 + c).toNat).Nodup := (hnd.sublist (List.drop_sublist _ _)).sublist (List.take_sublist _ _)
    refine ok_bind (pool_ok ns (200 * (pre.length : Int)) (by omega) (N.getD pre.length []) (cs := claimsAt N pre.length (1 + c).toNat) (ps := potsAt N pre.length p.toNat) (os := othersAt N pre.length (1 + d).toNat) (by omega) hcn (by omega) (by unfold potsAt; rw [List.length_take]; omega)) fun q hq => ?_
    obtain ⟨t, rfl, e, ht⟩ := hq
    refine ok_eq (push_eq (by rw [List.length_map]; omega)) (ok_some ⟨ts ++ [t], by simp, by simp [h1], fun k t2 hk => ?_⟩)
    rcases Nat.lt_or_ge k ts.length with hk2 | hk2
    · rw [List.getElem?_append_left hk2] at hk
      exact h2 k t2 hk
    · rw [List.getElem?_append_right hk2] at hk
      have hz : k - ts.length = 0 := by
        rcases Nat.eq_zero_or_pos (k - ts.length) with h | h
        · exact h
        · rw [List.getElem?_eq_none (by simp; omega)] at hk; cases hk
      rw [hz] at hk
      have : t = t2 := Option.some.inj hk
      subst this
      have hkk : k = pre.length := by omega
      subst hkk
      exact ⟨e, (1 + c).toNat, p.toNat, by omega, by omega, by omega, ht⟩
  obtain ⟨ts, rfl, h1, h2⟩ := hdeal
  rw [rngN_len] at h1
  refine ok_some ⟨ts, rfl, ⟨N, hnd, hlen, hlow, by omega, by omega, fun k t hk => ?_⟩, fun j k u v hne hj hk => ?_⟩
  · rw [h1]; exact h2 k t hk
  · obtain ⟨_, p, _, _, _, hu⟩ := (h2 j u hj).ok
    obtain ⟨_, q, _, _, _, hv⟩ := (h2 k v hk).ok
    rw [hu.pots, hv.pots]
    have := (List.getElem?_eq_some_iff.mp hj).1
    have := (List.getElem?_eq_some_iff.mp hk).1
    exact potsAt_apart hnd hlen hleq (by omega) (by omega) hne
theorem deal_ok (ns : List Int) (most : Int) (hm : 1 ≤ most ∧ most ≤ 3) : Ok (n_law_deal ns most) fun d => ∃ ts : List TP, d = ts.map TP.d ∧ DealOk most.toNat ts := ok_imp (deal_okD ns most hm) fun _ ⟨ts, e, h, _⟩ => ⟨ts, e, h⟩
end DK
set_option Elab.async false
set_option linter.all false
set_option maxRecDepth 100000
set_option maxHeartbeats 1000000
namespace DK
open PySem PySem.Spec PyProof.Rows L2 DL
theorem rl_ok {cs ps os : List Nm} (hs : ∀ n ∈ cs ++ ps ++ os, Sok n) {r : Rl} (h : r.In cs ps os ∨ ∃ c ∈ cs, r = .rest c) : dOk 4 r.d = true := by
  have hc : ∀ n ∈ cs, Sok n := fun n hn => hs n (by simp [hn])
  have hp : ∀ n ∈ ps, Sok n := fun n hn => hs n (by simp [hn])
  have ho : ∀ n ∈ os, Sok n := fun n hn => hs n (by simp [hn])
  rcases h with h | ⟨c, hc2, rfl⟩
  · cases r with
    | pay c => exact dT2 (dS (sok_cod _)) (dS (hc c h))
    | share l => exact dT2 (dS (sok_cod _)) (dQ fun x hx => dS (hc x (h.1 x hx)))
    | repay c => exact dT2 (dS (sok_cod _)) (dS (hc c h))
    | fill c => exact dT2 (dS (sok_cod _)) (dS (hp c h))
    | lend c x => exact dT3 (dS (sok_cod _)) (dS (ho c h.1)) rfl
    | back c => exact dT2 (dS (sok_cod _)) (dS (ho c h))
    | rest c => exact h.elim
  · exact dT2 (dS (sok_cod _)) (dS (hc c hc2))
theorem take_mem {α : Type} {xs : List α} {k : Nat} {x : α} (h : x ∈ xs.take k) : x ∈ xs := List.mem_of_mem_take h
theorem pool_dOk {cs ps os : List Nm} (hs : ∀ n ∈ cs ++ ps ++ os, Sok n) {t : TP} (h : PoolOk cs ps os t) (hn : Sok t.1) : dOk 8 (eR3 t.d) = true := by
  have hc : ∀ n ∈ cs, Sok n := fun n hn => hs n (by simp [hn])
  have hp : ∀ n ∈ ps, Sok n := fun n hn => hs n (by simp [hn])
  have hon : ∀ n ∈ t.2.2.2.2.1.map (·.1), Sok n := fun n hn => by
    obtain ⟨k, _, _, e⟩ := h.onames
    rw [e] at hn
    have := take_mem hn
    simp only [onames, List.mem_cons, List.not_mem_nil, or_false] at this
    rcases this with rfl | rfl | rfl <;> exact sok_cod _
  refine dT7 (dS hn) (dL fun c hx => ?_) (dL fun c hx => ?_) (dL fun c hx => dS (hc c (h.eat.2 c hx))) (dL fun o hx => ?_) (dL fun l hx => ?_) (dL fun g hx => ?_)
  · exact dT3 (dS (hc c.1 (by rw [← h.claims]; exact List.mem_map.mpr ⟨c, hx, rfl⟩))) rfl rfl
  · exact dT2 (dS (hp c.1 (by rw [← h.pots]; exact List.mem_map.mpr ⟨c, hx, rfl⟩))) rfl
  · obtain ⟨o, ho, rfl⟩ := List.mem_map.mp hx
    have hk := h.orders o ho
    refine dT3 (dS (hon _ (List.mem_map.mpr ⟨o, ho, rfl⟩))) (dL fun p hp => dT2 (dS (hc _ (hk.parts p hp).1)) rfl) (dL fun r hr => ?_)
    obtain ⟨r2, hr2, rfl⟩ := List.mem_map.mp hr
    exact rl_ok hs (hk.all.1 r2 hr2)
  · have := h.looks l hx
    exact dT3 (dS (hc _ this.1)) rfl (dS (hon _ this.2.2))
  · have := h.guards g hx
    exact dT2 (dS (hp _ this.1)) (dS (hc _ this.2.1))
structure PoolG (cs ps os : List Nm) (t : TP) : Prop where
  sok : ∀ n ∈ cs ++ ps ++ os, Sok n
  c3 : cs.length ≤ 3
  cn : cs.Nodup
  p2 : ps.length ≤ 2
  ok : PoolOk cs ps os t
  nm : Sok t.1
theorem PoolG.dOk {cs ps os : List Nm} {t : TP} (h : PoolG cs ps os t) : DL.dOk 8 (eR3 t.d) = true := pool_dOk h.sok h.ok h.nm
def S {κ α : Type} (cs : List κ) (sz : κ → α) : List (κ × α) := cs.map fun c => (c, sz c)
def upf {κ α : Type} [DecidableEq κ] (sz : κ → α) (c : κ) (x : α) : κ → α := fun k => if k = c then x else sz k
section
variable {κ α : Type} [DecidableEq κ] {cs : List κ} {sz : κ → α} {c : κ} {x : α}
theorem S_len : (S cs sz).length = cs.length := List.length_map _
theorem S_keys : (S cs sz).map (·.1) = cs := by
  unfold S; rw [List.map_map]
  exact (List.map_congr_left fun _ _ => rfl).trans (List.map_id _)
theorem lk_S : c ∈ cs → lkN (S cs sz) c = some (sz c) := by
  induction cs with
  | nil => intro h; cases h
  | cons d cs ih =>
    intro h
    show lkN ((d, sz d) :: S cs sz) c = _
    rw [lk_cons]
    by_cases e : d = c
    · subst e; rw [if_pos rfl]
    · rw [if_neg e]
      rcases List.mem_cons.mp h with z | z
      · exact absurd z.symm e
      · exact ih z
theorem put_S (h : c ∈ cs) : putN (S cs sz) c x = S cs (upf sz c x) := by
  unfold putN
  rw [if_pos]
  · unfold S
    rw [List.map_map]
    apply List.map_congr_left
    intro d _
    show (if d = c then (d, x) else (d, sz d)) = (d, if d = c then x else sz d)
    split <;> rfl
  · rw [List.any_eq_true]
    exact ⟨(c, sz c), List.mem_map.mpr ⟨c, h, rfl⟩, decide_eq_true rfl⟩
theorem putK_S (h : c ∈ cs) (hl : cs.length < 16000000) : DL.putK (S cs sz) c x = some (S cs (upf sz c x)) := by
  unfold DL.putK
  rw [if_pos (by rw [S_len]; exact hl), put_S h]
theorem mkK_id {ps : List (κ × α)} (h : (ps.map (·.1)).Nodup) : mkK ps = ps := by
  have go : ∀ (qs acc : List (κ × α)), ((acc ++ qs).map (·.1)).Nodup → qs.foldl (fun acc p => putN acc p.1 p.2) acc = acc ++ qs := by
    intro qs
    induction qs with
    | nil => intro acc _; simp
    | cons q qs ih =>
      intro acc hn
      rw [List.foldl_cons]
      have hq : putN acc q.1 q.2 = acc ++ [q] := by
        unfold putN
        rw [if_neg]
        intro z
        obtain ⟨p, hp, e⟩ := List.any_eq_true.mp z
        rw [List.map_append, List.map_cons, List.nodup_append] at hn
        exact hn.2.2 p.1 (List.mem_map.mpr ⟨p, hp, rfl⟩) q.1 (by simp) (of_decide_eq_true e)
      rw [hq, ih (acc ++ [q]) (by simpa using hn)]
      simp
  exact go ps [] (by simpa using h)
theorem S_of [Inhabited α] {ps : List (κ × α)} (h : ps.map (·.1) = cs) (hn : cs.Nodup) (d : α) : ps = S cs fun c => (lkN ps c).getD d := by
  subst h
  unfold S
  rw [List.map_map]
  conv => lhs; rw [← List.map_id ps]
  apply List.map_congr_left
  intro p hp
  show p = (p.1, (lkN ps p.1).getD d)
  rw [lk_of hn (show (p.1, p.2) ∈ ps from hp)]; rfl
theorem mkK_S (hn : cs.Nodup) : mkK (S cs sz) = S cs sz := mkK_id (by rw [S_keys]; exact hn)
end
end DK
set_option Elab.async false
set_option linter.all false
set_option maxRecDepth 100000
set_option maxHeartbeats 1000000
namespace FA
open PySem PySem.Spec PyProof.Rows L2 DL FAN
open DK (getD_of cutTake Rl S upf lk_S putK_S mkK_S S_of S_len S_keys)
theorem mixed_ok (c k : Int) (hk : 0 ≤ k ∧ k ≤ 100000) : Ok (n_law_mixed c k) fun x => 0 ≤ x ∧ x < 2147483647 := by
  unfold n_law_mixed
  refine ok_eq (mulN_l (by omega)) ?_
  have h0 := Int.emod_nonneg (c % 2147483647 * 48271 + (k * k + 3 * k + 7) * 69621) (show (2147483647 : Int) ≠ 0 by omega)
  have h1 := Int.emod_lt_of_pos (c % 2147483647 * 48271 + (k * k + 3 * k + 7) * 69621) (show (0 : Int) < 2147483647 by omega)
  generalize (c % 2147483647 * 48271 + (k * k + 3 * k + 7) * 69621) % 2147483647 = m at h0 h1
  refine ok_eq (mulN_l (by omega)) (ok_some ⟨Int.emod_nonneg _ (by omega), Int.emod_lt_of_pos _ (by omega)⟩)
theorem coins_ok (c w m : Int) (hw : 0 ≤ w ∧ w ≤ 2147483647) (hm : 7 ≤ m ∧ m ≤ 1000000000000) : Ok (n_law_coins c w m) fun x => 1 ≤ x ∧ x ≤ m := by
  unfold n_law_coins
  refine ok_dite (fun _ => ok_some (by omega)) fun _ => ?_
  refine ok_dite (fun _ => ok_some (by omega)) fun _ => ?_
  refine ok_dite (fun _ => ok_some (by have := Int.emod_nonneg c (show (7 : Int) ≠ 0 by omega); have := Int.emod_lt_of_pos c (show (0 : Int) < 7 by omega); omega)) fun _ => ?_
  refine ok_dite (fun _ => ok_bind (ok_mod (by omega)) fun x hx => ok_some (by omega)) fun _ => ?_
  refine ok_bind (ok_mod (by omega)) fun x hx => ?_
  refine ok_eq (mulN_r (by omega)) ?_
  exact ok_bind (ok_mod (by omega)) fun x hx => ok_some (by omega)
def seg (N : List Nm) (a n : Nat) : List Nm := (N.drop a).take n
theorem seg_snoc {N : List Nm} {a n : Nat} (h : a + n < N.length) : seg N a (n + 1) = seg N a n ++ [N.getD (a + n) []] := by
  unfold seg
  rw [List.take_add_one, List.getElem?_drop, List.getElem?_eq_getElem h, List.getD_eq_getElem?_getD, List.getElem?_eq_getElem h]; rfl
theorem seg_mem {N : List Nm} {a n : Nat} {x : Nm} (h : x ∈ seg N a n) : x ∈ N := List.mem_of_mem_drop (List.mem_of_mem_take h)
theorem seg_nodup {N : List Nm} {a n : Nat} (h : N.Nodup) : (seg N a n).Nodup := (h.sublist (List.drop_sublist _ _)).sublist (List.take_sublist _ _)
theorem rngN_pre {b : Nat} {pre post : List Int} {x : Int} (h : rngN 0 b = pre ++ x :: post) : x = (pre.length : Int) ∧ pre.length < b := by
  have hl := congrArg List.length h
  rw [rngN_len, List.length_append, List.length_cons] at hl
  have e := congrArg (fun l : List Int => l[pre.length]?) h
  simp only [List.getElem?_append_right (Nat.le_refl _), Nat.sub_self] at e
  unfold rngN at e
  rw [List.getElem?_map, List.getElem?_range (by omega)] at e
  have e : some (0 + ((pre.length : Nat) : Int)) = some x := e
  exact ⟨by injection e with e; omega, by omega⟩
theorem pick9 (x : Int) : Ok (atI [(9 : Int), 1000000000000] (x % 2)) fun m => 7 ≤ m ∧ m ≤ 1000000000000 :=
  ok_atI (Int.emod_nonneg _ (by omega)) (Int.emod_lt_of_pos _ (by omega)) fun y hy => by
    simp only [List.mem_cons, List.not_mem_nil, or_false] at hy
    rcases hy with rfl | rfl <;> omega
theorem pick30 (x : Int) : Ok (atI [(30 : Int), 1000000000000] (x % 2)) fun m => 7 ≤ m ∧ m ≤ 1000000000000 :=
  ok_atI (Int.emod_nonneg _ (by omega)) (Int.emod_lt_of_pos _ (by omega)) fun y hy => by
    simp only [List.mem_cons, List.not_mem_nil, or_false] at hy
    rcases hy with rfl | rfl <;> omega
structure ClOk (N : List Nm) (cl : List TSII) : Prop where
  len : 1 ≤ cl.length ∧ cl.length ≤ 6
  names : cl.map (·.1) = seg N 1 cl.length
  size : ∀ c ∈ cl, (1 ≤ c.2.1 ∧ c.2.1 ≤ 1000000000000) ∧ 1 ≤ c.2.2 ∧ c.2.2 ≤ 1000000000000
theorem claims_ok (seed m : Int) {N : List Nm} (hN : N.length = 12) : Ok (n_law_claims seed N m) (ClOk N) := by
  unfold n_law_claims
  have h0 := Int.emod_nonneg m (show (6 : Int) ≠ 0 by omega)
  have h1 := Int.emod_lt_of_pos m (show (0 : Int) < 6 by omega)
  refine ok_eq (rng1_eq (by omega) (by omega)) ?_
  refine ok_bind (ok_fold0 (I := fun done cl => cl.length = done.length ∧ cl.map (·.1) = seg N 1 cl.length ∧ ∀ c ∈ cl, (1 ≤ c.2.1 ∧ c.2.1 ≤ 1000000000000) ∧ 1 ≤ c.2.2 ∧ c.2.2 ≤ 1000000000000) ⟨rfl, by unfold seg; simp, by simp⟩ fun pre x post s hp hi => ?_) fun s hs => ?_
  · obtain ⟨hx, hlt⟩ := rngN_pre hp
    refine ok_bind (mixed_ok seed (20 + x) (by omega)) fun n hn => ?_
    refine ok_bind (pick30 _) fun a ha => ?_
    refine ok_bind (coins_ok _ _ a (by omega) ha) fun z hz => ?_
    refine ok_eq (getD_of [] (by omega) (by omega)) ?_
    refine ok_bind (pick9 _) fun b hb => ?_
    refine ok_bind (coins_ok _ _ b (by omega) hb) fun d hd => ?_
    refine ok_eq (push_eq (by omega)) (ok_some ⟨by rw [List.length_append, List.length_append, hi.1]; rfl, ?_, fun c hc => ?_⟩)
    · rw [List.map_append, hi.2.1, List.length_append, List.length_singleton, seg_snoc (by omega), hi.1, show (1 + x).toNat = 1 + pre.length by omega]; rfl
    · rcases List.mem_append.mp hc with hc | hc
      · exact hi.2.2 c hc
      · rw [List.mem_singleton] at hc; subst hc
        exact ⟨⟨hz.1, show z ≤ _ by omega⟩, hd.1, show d ≤ _ by omega⟩
  · have hl := hs.1
    rw [rngN_len] at hl
    exact ok_some ⟨by omega, hs.2.1, hs.2.2⟩
structure PtOk (N : List Nm) (pl : List TSI) : Prop where
  len : pl.length ≤ 3
  names : pl.map (·.1) = seg N 7 pl.length
  mark : ∀ c ∈ pl, 1 ≤ c.2 ∧ c.2 ≤ 1000000000000
theorem eqQ_nil {n : Nat} {d : D} {ds : List D} (hn : n ≤ 64) (h : dOk n (.lst (d :: ds)) = true) : eqQ (.lst (d :: ds)) (.lst []) = some false := by
  obtain ⟨p, h1, h2, h3, h4⟩ := dOk_py n _ h
  obtain ⟨q, g1, g2⟩ := omap (show (toPys (d :: ds)).map PyData.list = some p from h1)
  obtain ⟨x, k1, k2⟩ := obind (show (toPy d).bind (fun p => (toPys ds).map (p :: ·)) = some q from g1)
  obtain ⟨y, k3, k4⟩ := omap k2
  subst k4; subst g2
  have hs : SeqAt.shaped (.list (x :: y)) = true := by
    unfold SeqAt.shaped
    rw [h2, decide_eq_true (by omega)]; rfl
  show eqDeep _ _ = _
  unfold eqDeep
  rw [h1]
  show (if (SeqAt.shaped (.list (x :: y)) && SeqAt.shaped (.list [])) = true then some (PyData.eqv (.list (x :: y)) (.list [])) else none) = _
  rw [hs]
  rfl
theorem eqQ_nn : eqQ (.lst []) (.lst []) = some true := rfl
theorem ok_empty {α : Type} {e : α → D} {xs : List α} {n : Nat} (hn : n ≤ 64) (h : dOk n (eLs e xs) = true) : eqQ (eLs e xs) (eLs e ([] : List α)) = some (decide (xs = [])) := by
  cases xs with
  | nil => exact eqQ_nn
  | cons x xs =>
    rw [decide_eq_false (by simp)]
    exact eqQ_nil hn h
structure GdOk (cs ps : List Nm) (gs : List TSS) : Prop where
  len : gs.length ≤ 3
  mem : ∀ g ∈ gs, g.1 ∈ ps ∧ g.2 ∈ cs
theorem nmap {α : Type} {xs : List (Nm × α)} {x : Nm × α} (h : x ∈ xs) : x.1 ∈ xs.map (·.1) := List.mem_map.mpr ⟨x, h, rfl⟩
theorem minI_eq (a b : Int) : minI a b = min a b := by unfold minI; omega
theorem dOk_pots {pl : List TSI} (h : ∀ n ∈ pl.map (·.1), Sok n) : dOk 4 (eLs eTSI pl) = true := dL fun x hx => dT2 (dS (h _ (nmap hx))) dI
theorem guards_ok (m : Int) (hm : 0 ≤ m) {cl : List TSII} {pl : List TSI} (hc : 1 ≤ cl.length ∧ cl.length ≤ 6) (hp : pl.length ≤ 3) (hs : ∀ n ∈ pl.map (·.1), Sok n) : Ok (n_law_guards m cl pl) (GdOk (cl.map (·.1)) (pl.map (·.1))) := by
  unfold n_law_guards
  refine ok_eq (ok_empty (n := 4) (by omega) (dOk_pots hs)) ?_
  refine ok_bind (Q := GdOk (cl.map (·.1)) (pl.map (·.1))) ?_ fun s hs => ok_some hs
  refine ok_ite (fun hb => ?_) (fun _ => ok_some ⟨by simp, by simp⟩)
  have hne : pl ≠ [] := by simpa using hb
  have hpl : 1 ≤ pl.length := by cases pl with | nil => exact absurd rfl hne | cons => simp
  have h0 := Int.emod_nonneg m (show (4 : Int) ≠ 0 by omega)
  have h1 := Int.emod_lt_of_pos m (show (0 : Int) < 4 by omega)
  rw [minI_eq]
  refine ok_eq (rng1_eq (by omega) (by omega)) ?_
  refine ok_bind (ok_fold0 (I := fun done gs => gs.length = done.length ∧ ∀ g ∈ gs, g.1 ∈ pl.map (·.1) ∧ g.2 ∈ cl.map (·.1)) ⟨rfl, by simp⟩ fun pre x post s hp2 hi => ?_) fun s hs => ?_
  · obtain ⟨hx, hlt⟩ := rngN_pre hp2
    refine ok_bind (ok_mod (by omega)) fun a ha => ?_
    refine ok_bind (ok_atI (R := fun c => c ∈ cl) ha.1 ha.2 fun _ h => h) fun c hc2 => ?_
    refine ok_eq (mulN_l (by omega)) ?_
    refine ok_bind (ok_mod (by omega)) fun b hb => ?_
    refine ok_bind (ok_atI (R := fun c => c ∈ pl) hb.1 hb.2 fun _ h => h) fun p hp3 => ?_
    refine ok_eq (push_eq (by omega)) (ok_some ⟨by rw [List.length_append, List.length_append, hi.1]; rfl, fun g hg => ?_⟩)
    rcases List.mem_append.mp hg with hg | hg
    · exact hi.2 g hg
    · rw [List.mem_singleton] at hg; subst hg; exact ⟨nmap hp3, nmap hc2⟩
  · have hl := hs.1
    rw [rngN_len] at hl
    exact ok_some ⟨by omega, hs.2⟩
structure Kinds (kinds : List Nm) (ok : Rl → Prop) : Prop where
  pay : ∀ c, kinds ≠ [] → ok (.pay c)
  repay : ∀ c, cod "repay" ∈ kinds → ok (.repay c)
  fill : ∀ c, cod "fill" ∈ kinds → ok (.fill c)
  share : ∀ l, cod "share" ∈ kinds → ok (.share l)
  lend : ∀ c x, cod "lend" ∈ kinds → ok (.lend c x)
  back : ∀ c, cod "back" ∈ kinds → ok (.back c)
theorem rule_ok (n : Int) (hn : 0 ≤ n ∧ n < 2147483647) {cl : List TSII} {pl : List TSI} {free os kinds : List Nm} {ok : Rl → Prop} (hk : Kinds kinds ok) (hk0 : 1 ≤ kinds.length) (hc : 1 ≤ cl.length ∧ cl.length ≤ 6) (hp : pl.length ≤ 3) (hs : ∀ n ∈ pl.map (·.1), Sok n) (hfs : ∀ n ∈ free, Sok n)
    (hf : ∀ x ∈ free, x ∈ cl.map (·.1)) (hfn : free.Nodup) (hfl : free.length ≤ 6) (ho : os.length = 2) : Ok (n_law_rule n cl pl free os kinds) fun d => ∃ r : Rl, d = r.d ∧ r.In (cl.map (·.1)) (pl.map (·.1)) os ∧ ok r := by
  unfold n_law_rule
  refine ok_bind (ok_mod (by omega)) fun a ha => ?_
  refine ok_bind (ok_atI (R := fun c => c ∈ kinds) ha.1 ha.2 fun _ h => h) fun k hkm => ?_
  have kne : kinds ≠ [] := by rintro rfl; cases hkm
  refine ok_ite (fun hb => ?_) (fun _ => ?_)
  · rw [Bool.and_eq_true] at hb
    have e1 := of_decide_eq_true hb.1
    have e2 := of_decide_eq_true hb.2
    subst e1
    refine ok_bind (ok_mod (by omega)) fun b hb => ?_
    refine ok_eq (rng1_eq (by omega) (by omega)) ?_
    have hL : (0 : Int) < (free.length : Int) := by omega
    refine ok_eq (compO_eq (g := fun i => free.getD ((n / 9 + i) % (free.length : Int)).toNat []) (by rw [rngN_len]; omega) fun i hi => ?_) ?_
    · rw [modN_eq hL, bindS, getD_of [] (Int.emod_nonneg _ (by omega)) (Int.emod_lt_of_pos _ hL), bindS]
    · refine ok_some ⟨.share _, rfl, ⟨fun c hc2 => ?_, ?_, ?_⟩, hk.share _ hkm⟩
      · obtain ⟨i, hi, rfl⟩ := List.mem_map.mp hc2
        have h0 := Int.emod_nonneg (n / 9 + i) (show (free.length : Int) ≠ 0 by omega)
        have h1 := Int.emod_lt_of_pos (n / 9 + i) hL
        rw [List.getD_eq_getElem?_getD, List.getElem?_eq_getElem (by omega)]
        exact hf _ (List.getElem_mem _)
      · rw [List.Nodup, List.pairwise_map]
        unfold rngN
        rw [List.pairwise_map]
        refine List.Pairwise.imp_of_mem (fun {u v} hu hv hne e => ?_) (List.nodup_range (n := (2 + b).toNat))
        have h1 := List.mem_range.mp hu
        have h2 := List.mem_range.mp hv
        have a0 := Int.emod_nonneg (n / 9 + (0 + (u : Int))) (show (free.length : Int) ≠ 0 by omega)
        have a1 := Int.emod_lt_of_pos (n / 9 + (0 + (u : Int))) hL
        have b0 := Int.emod_nonneg (n / 9 + (0 + (v : Int))) (show (free.length : Int) ≠ 0 by omega)
        have b1 := Int.emod_lt_of_pos (n / 9 + (0 + (v : Int))) hL
        have l1 : ((n / 9 + (0 + (u : Int))) % (free.length : Int)).toNat < free.length := by omega
        have l2 : ((n / 9 + (0 + (v : Int))) % (free.length : Int)).toNat < free.length := by omega
        rw [List.getD_eq_getElem?_getD, List.getD_eq_getElem?_getD, List.getElem?_eq_getElem l1, List.getElem?_eq_getElem l2] at e
        have e := (List.getElem_inj hfn).mp (show free[((n / 9 + (0 + (u : Int))) % (free.length : Int)).toNat] = free[((n / 9 + (0 + (v : Int))) % (free.length : Int)).toNat] from e)
        have e2 : (n / 9 + (0 + (u : Int))) % (free.length : Int) = (n / 9 + (0 + (v : Int))) % (free.length : Int) := by omega
        have A := Int.mul_ediv_add_emod (n / 9 + (0 + (u : Int))) (free.length : Int)
        have B := Int.mul_ediv_add_emod (n / 9 + (0 + (v : Int))) (free.length : Int)
        obtain ⟨q, hq0'⟩ : ∃ q, q = (n / 9 + (0 + (u : Int))) / (free.length : Int) - (n / 9 + (0 + (v : Int))) / (free.length : Int) := ⟨_, rfl⟩
        have hq : (n / 9 + (0 + (u : Int))) - (n / 9 + (0 + (v : Int))) = (free.length : Int) * q := by rw [hq0', Int.mul_sub]; omega
        have hb1 : (u : Int) - v < free.length := by omega
        have hb2 : -(free.length : Int) < (u : Int) - v := by omega
        have hq0 : q = 0 := by
          rcases Int.lt_trichotomy q 0 with h | h | h
          · have : (free.length : Int) * q ≤ (free.length : Int) * (-1) := Int.mul_le_mul_of_nonneg_left (by omega) (by omega)
            omega
          · exact h
          · have : (free.length : Int) * 1 ≤ (free.length : Int) * q := Int.mul_le_mul_of_nonneg_left (by omega) (by omega)
            omega
        subst hq0
        omega
      · rw [List.length_map, rngN_len]; omega
  refine ok_bind (Q := fun b => b = true → k = cod "repay" ∧ free ≠ []) ?_ fun b hb => ?_
  · refine ok_dite (fun h => ?_) (fun _ => ok_some (fun h => nomatch h))
    refine ok_eq (ok_empty (n := 4) (by omega) (dL fun x hx => dS (hfs x hx))) (ok_some fun h2 => ⟨h, by simpa using h2⟩)
  refine ok_ite (fun hb' => ?_) (fun _ => ?_)
  · obtain ⟨rfl, hne⟩ := hb hb'
    have hL : 1 ≤ free.length := by cases free with | nil => exact absurd rfl hne | cons => simp
    refine ok_bind (ok_mod (by omega)) fun i hi => ?_
    refine ok_bind (ok_atI (R := fun c => c ∈ free) hi.1 hi.2 fun _ h => h) fun c hc2 => ?_
    exact ok_some ⟨.repay c, rfl, hf c hc2, hk.repay _ hkm⟩
  refine ok_bind (Q := fun b => b = true → k = cod "fill" ∧ pl ≠ []) ?_ fun b hb => ?_
  · refine ok_dite (fun h => ?_) (fun _ => ok_some (fun h => nomatch h))
    refine ok_eq (ok_empty (n := 4) (by omega) (dOk_pots hs)) (ok_some fun h2 => ⟨h, by simpa using h2⟩)
  refine ok_ite (fun hb' => ?_) (fun _ => ?_)
  · obtain ⟨rfl, hne⟩ := hb hb'
    have hL : 1 ≤ pl.length := by cases pl with | nil => exact absurd rfl hne | cons => simp
    refine ok_bind (ok_mod (by omega)) fun i hi => ?_
    refine ok_bind (ok_atI (R := fun c => c ∈ pl) hi.1 hi.2 fun _ h => h) fun c hc2 => ?_
    exact ok_some ⟨.fill c.1, rfl, nmap hc2, hk.fill _ hkm⟩
  refine ok_dite (fun h => ?_) (fun _ => ?_)
  · subst h
    refine ok_bind (ok_atI (R := fun c => c ∈ os) (Int.emod_nonneg _ (by omega)) (by have := Int.emod_lt_of_pos (n / 9) (show (0 : Int) < 2 by omega); omega) fun _ h => h) fun o ho2 => ?_
    refine ok_bind (pick9 _) fun b hb => ?_
    refine ok_bind (coins_ok _ _ b (by omega) hb) fun x hx => ?_
    exact ok_some ⟨.lend o x, rfl, ⟨ho2, hx.1, by omega⟩, hk.lend _ _ hkm⟩
  refine ok_dite (fun h => ?_) (fun _ => ?_)
  · subst h
    refine ok_bind (ok_atI (R := fun c => c ∈ os) (Int.emod_nonneg _ (by omega)) (by have := Int.emod_lt_of_pos (n / 9) (show (0 : Int) < 2 by omega); omega) fun _ h => h) fun o ho2 => ?_
    exact ok_some ⟨.back o, rfl, ho2, hk.back _ hkm⟩
  refine ok_bind (ok_mod (by omega)) fun i hi => ?_
  refine ok_bind (ok_atI (R := fun c => c ∈ cl) hi.1 hi.2 fun _ h => h) fun c hc2 => ?_
  exact ok_some ⟨.pay c.1, rfl, nmap hc2, hk.pay _ kne⟩
end FA
set_option Elab.async false
set_option linter.all false
set_option maxRecDepth 100000
set_option maxHeartbeats 1000000
namespace FA
open PySem PySem.Spec PyProof.Rows L2 DL FAN
open DK (getD_of cutTake Rl TO S upf lk_S putK_S mkK_S S_of S_len S_keys)
def Low (n : Nm) : Prop := ∀ c ∈ n, 97 ≤ c ∧ c ≤ 122
theorem Low.sok {n : Nm} (h : Low n) : Sok n := fun c hc => by have := h c hc; omega
def L25 : List Nat := cod "abcdefghijklmnpqrstuvwxyz"
def L20 : List Nat := cod "bcdfghjklmnpqrstvwxz"
theorem L25_low : L25.length = 25 ∧ ∀ c ∈ L25, 97 ≤ c ∧ c ≤ 122 := by decide +kernel
theorem L20_low : L20.length = 20 ∧ ∀ c ∈ L20, 97 ≤ c ∧ c ≤ 122 := by decide +kernel
theorem L20_inj : ∀ i < 20, ∀ j < 20, L20.getD i 0 = L20.getD j 0 → i = j := by decide +kernel
theorem ixS_ok {l : List Nat} {i : Int} (h : l.length ≤ 1000) (h0 : 0 ≤ i) (h1 : i < l.length) : ixS l i = some [l.getD i.toNat 0] := by
  unfold ixS
  rw [if_pos (by omega), getD_of 0 h0 h1]; rfl
theorem getD_mem {α : Type} {l : List α} {i : Nat} {d : α} (h : i < l.length) : l.getD i d ∈ l := by
  rw [List.getD_eq_getElem?_getD, List.getElem?_eq_getElem h]
  exact List.getElem_mem h
theorem joinL_nil : ∀ ls : List (List Nat), TL.joinL [] ls = ls.flatten
  | [] => rfl
  | [l] => by simp [TL.joinL]
  | l :: m :: ls => by
    have := joinL_nil (m :: ls)
    show l ++ ([] ++ TL.joinL [] (m :: ls)) = _
    rw [this]; simp
theorem flat1 : ∀ l : List Nat, (l.map fun c => [c]).flatten = l
  | [] => rfl
  | c :: l => by rw [List.map_cons, List.flatten_cons, flat1 l]; rfl
theorem len1 : ∀ l : List Nat, ((l.map fun c => [c]).map (·.length)).sum = l.length
  | [] => rfl
  | c :: l => by rw [List.map_cons, List.map_cons, List.sum_cons, len1 l, List.length_cons]; simp; omega
theorem join1 {l : List Nat} (h : l.length ≤ 1000) : joinN (cod "") (l.map fun c => [c]) = some l := by
  unfold joinN
  rw [len1, if_pos (by show l.length + (l.map _).length * 0 ≤ _; omega), show (cod "") = ([] : List Nat) from by decide, joinL_nil, flat1]
def nameF (b : Nat) (size at' at2 : Nat) (f : Int) (s2 : Nat) (k : Int) : Nm := ((List.replicate size b).set at' (L20.getD ((f + 3 * k) % 20).toNat 0)).set at2 s2
theorem nameF_low {b size at' at2 : Nat} {f : Int} {s2 : Nat} {k : Int} (hb : 97 ≤ b ∧ b ≤ 122) (h2 : 97 ≤ s2 ∧ s2 ≤ 122) : Low (nameF b size at' at2 f s2 k) := fun c hc => by
  unfold nameF at hc
  rcases List.mem_or_eq_of_mem_set hc with hc | rfl
  · rcases List.mem_or_eq_of_mem_set hc with hc | rfl
    · rw [(List.mem_replicate.mp hc).2]; exact hb
    · exact L20_low.2 _ (getD_mem (by rw [L20_low.1]; omega))
  · exact h2
theorem nameF_inj {b size at' at2 : Nat} {f : Int} {s2 : Nat} {i j : Int} (h1 : at' < size) (h2 : at' ≠ at2) (hi : 0 ≤ i ∧ i < 20) (hj : 0 ≤ j ∧ j < 20) (h : nameF b size at' at2 f s2 i = nameF b size at' at2 f s2 j) : i = j := by
  have e := congrArg (fun l : Nm => l[at']?) h
  have hl : at' < (List.replicate size b).length := by rw [List.length_replicate]; exact h1
  simp only [nameF, List.getElem?_set_ne (Ne.symm h2), List.getElem?_set_self hl] at e
  have e := L20_inj _ (by omega) _ (by omega) (Option.some.inj e)
  omega
theorem names_ok (c many : Int) (hm : 0 ≤ many ∧ many ≤ 20) : Ok (n_law_names c many) fun N => N.length = many.toNat ∧ N.Nodup ∧ ∀ n ∈ N, Low n := by
  unfold n_law_names
  refine ok_bind (mixed_ok c 3 (by omega)) fun m hm2 => ?_
  refine ok_eq (ixS_ok (l := L25) (by rw [L25_low.1]; omega) (Int.emod_nonneg _ (by omega)) (by rw [L25_low.1]; exact Int.emod_lt_of_pos _ (by omega))) ?_
  have hb : 97 ≤ L25.getD (m % 25).toNat 0 ∧ L25.getD (m % 25).toNat 0 ≤ 122 := L25_low.2 _ (getD_mem (by rw [L25_low.1]; omega))
  generalize L25.getD (m % 25).toNat 0 = b at hb
  refine ok_ite (fun _ => ?_) (fun _ => ?_)
  · refine ok_eq (rng1_eq (by omega) (by omega)) ?_
    refine ok_eq (compO_eq (g := fun k => List.replicate (many - k).toNat b) (by rw [rngN_len]; omega) fun k hk => ?_) ?_
    · have := rngN_mem hk
      unfold repN
      rw [if_pos ⟨by omega, by omega, by simp; omega⟩, bindS]
      congr 1
      induction (many - k).toNat with
      | zero => rfl
      | succ n ih => rw [List.replicate_succ, List.flatten_cons, ih, List.replicate_succ]; rfl
    · refine ok_some ⟨by rw [List.length_map, rngN_len], ?_, fun n hn => ?_⟩
      · rw [List.Nodup, List.pairwise_map]
        unfold rngN
        rw [List.pairwise_map]
        refine List.Pairwise.imp_of_mem (fun {u v} hu hv hne e => ?_) (List.nodup_range (n := many.toNat))
        have h1 := List.mem_range.mp hu
        have h2 := List.mem_range.mp hv
        have := congrArg List.length e
        rw [List.length_replicate, List.length_replicate] at this
        omega
      · obtain ⟨k, hk, rfl⟩ := List.mem_map.mp hn
        intro c hc
        rw [(List.mem_replicate.mp hc).2]; exact hb
  · have z0 := Int.emod_nonneg (m / 75) (show (7 : Int) ≠ 0 by omega)
    have z1 := Int.emod_lt_of_pos (m / 75) (show (0 : Int) < 7 by omega)
    obtain ⟨size, hsz⟩ : ∃ size : Nat, 2 + m / 75 % 7 = (size : Int) := ⟨(2 + m / 75 % 7).toNat, by omega⟩
    rw [hsz]
    have hs2 : 2 ≤ size ∧ size ≤ 8 := by omega
    refine ok_eq (modN_eq (by omega)) ?_
    have t0 := Int.emod_nonneg (m / 525) (show (size : Int) ≠ 0 by omega)
    have t1 := Int.emod_lt_of_pos (m / 525) (show (0 : Int) < size by omega)
    obtain ⟨at', hat⟩ : ∃ a : Nat, m / 525 % (size : Int) = (a : Int) := ⟨(m / 525 % (size : Int)).toNat, by omega⟩
    rw [hat] at t0 t1 ⊢
    obtain ⟨at2, hat2⟩ : ∃ a : Nat, ((at' : Int) + 1) % (size : Int) = (a : Int) := ⟨(((at' : Int) + 1) % (size : Int)).toNat, by have := Int.emod_nonneg ((at' : Int) + 1) (show (size : Int) ≠ 0 by omega); omega⟩
    have u1 := Int.emod_lt_of_pos ((at' : Int) + 1) (show (0 : Int) < size by omega)
    have hne : at' ≠ at2 := by
      intro e
      subst e
      by_cases h : (at' : Int) + 1 < size
      · rw [Int.emod_eq_of_lt (by omega) h] at hat2; omega
      · have : (at' : Int) + 1 = size := by omega
        rw [this, Int.emod_self] at hat2; omega
    refine ok_eq (rng1_eq (by omega) (by omega)) ?_
    have g2 : ∀ k : Int, 0 ≤ k ∧ k < 20 → (m / 84000 + k / 20) % 20 = m / 84000 % 20 := fun k hk => by rw [show k / 20 = 0 by omega, Int.add_zero]
    obtain ⟨s2, hs2'⟩ : ∃ s, s = L20.getD (m / 84000 % 20).toNat 0 := ⟨_, rfl⟩
    have hsl : 97 ≤ s2 ∧ s2 ≤ 122 := by
      subst hs2'
      exact L20_low.2 _ (getD_mem (by rw [L20_low.1]; omega))
    refine ok_bind (ok_fold0 (I := fun done s => s = done.map (nameF b size at' at2 (m / 4200) s2)) rfl fun pre x post s hp hi => ?_) fun s hs => ?_
    · obtain ⟨hx, hlt⟩ := rngN_pre hp
      subst hi
      refine ok_eq (rng1_eq (by omega) (by omega)) ?_
      refine ok_eq (compT_eq (by rw [rngN_len]; omega)) ?_
      have e0 : (rngN 0 (size : Int).toNat).map (fun (_ : Int) => [b]) = (List.replicate size b).map fun c => [c] := by
        rw [List.map_replicate]
        refine List.eq_replicate_iff.mpr ⟨by rw [List.length_map, rngN_len]; omega, fun y hy => ?_⟩
        obtain ⟨_, _, rfl⟩ := List.mem_map.mp hy; rfl
      rw [e0]
      refine ok_eq (ixS_ok (l := L20) (by rw [L20_low.1]; omega) (Int.emod_nonneg _ (by omega)) (by rw [L20_low.1]; exact Int.emod_lt_of_pos _ (by omega))) ?_
      have putS : ∀ (l : List Nat) (i c : Nat), i < l.length → putI (l.map fun c => [c]) (i : Int) [c] = some ((l.set i c).map fun c => [c]) := fun l i c hi => by
        unfold putI
        rw [List.length_map, show ixN l.length (i : Int) = some i from by unfold ixN; rw [if_pos (by omega), if_pos (by omega)]; rfl]
        show some _ = _
        rw [List.map_set]
      refine ok_eq (putS _ at' _ (by rw [List.length_replicate]; omega)) ?_
      rw [g2 x (by omega)]
      refine ok_eq (ixS_ok (l := L20) (by rw [L20_low.1]; omega) (Int.emod_nonneg _ (by omega)) (by rw [L20_low.1]; exact Int.emod_lt_of_pos _ (by omega))) ?_
      rw [← hs2']
      refine ok_eq (modN_eq (by omega)) ?_
      rw [hat2]
      refine ok_eq (putS _ at2 _ (by rw [List.length_set, List.length_replicate]; omega)) ?_
      refine ok_eq (join1 (by rw [List.length_set, List.length_set, List.length_replicate]; omega)) ?_
      exact ok_eq (push_eq (by rw [List.length_map]; omega)) (ok_some (by rw [List.map_append]; rfl))
    · subst hs
      refine ok_some ⟨by rw [List.length_map, rngN_len], ?_, fun n hn => ?_⟩
      · rw [List.Nodup, List.pairwise_map]
        unfold rngN
        rw [List.pairwise_map]
        refine List.Pairwise.imp_of_mem (fun {u v} hu hv hne2 e => ?_) (List.nodup_range (n := many.toNat))
        have h1 := List.mem_range.mp hu
        have h2 := List.mem_range.mp hv
        have := nameF_inj (by omega) hne (by omega) (by omega) e
        omega
      · obtain ⟨k, hk, rfl⟩ := List.mem_map.mp hn
        exact nameF_low hb hsl
end FA
set_option Elab.async false
set_option linter.all false
set_option maxRecDepth 100000
set_option maxHeartbeats 1000000
namespace FA
open PySem PySem.Spec PyProof.Rows L2 DL FAN
open DK (getD_of cutTake Rl S upf lk_S putK_S mkK_S S_of S_len S_keys)
structure OrOk (cs ps os : List Nm) (ok : Rl → Prop) (o : DK.TO) : Prop where
  parts : o.2.1.length ≤ 6 ∧ ∀ p ∈ o.2.1, p.1 ∈ cs ∧ 1 ≤ p.2 ∧ p.2 ≤ 10
  rules : ∃ (rs : List Rl) (c : Nm), o.2.2 = rs ++ [Rl.rest c] ∧ c ∈ cs ∧ rs.length ≤ 8 ∧ ∀ r ∈ rs, r.In cs ps os ∧ ok r
theorem eqQ_empty_S {xs : List Nm} (h : ∀ x ∈ xs, Sok x) : eqQ (eLs eS xs) (eLs eS ([] : List Nm)) = some (decide (xs = [])) := ok_empty (n := 4) (by omega) (dL fun x hx => dS (h x hx))
theorem order_ok (ns : List Int) (seed at' : Int) (hat : 0 ≤ at' ∧ at' ≤ 50000) (nm : Nm) {cl : List TSII} {pl : List TSI} {free os kinds : List Nm} {ok : Rl → Prop} (hk : Kinds kinds ok) (hks : ∀ k ∈ kinds, Sok k) (hc : 1 ≤ cl.length ∧ cl.length ≤ 6) (hp : pl.length ≤ 3) (hs : ∀ n ∈ pl.map (·.1), Sok n) (hfs : ∀ n ∈ free, Sok n)
    (hf : ∀ x ∈ free, x ∈ cl.map (·.1)) (hfn : free.Nodup) (hfl : free.length ≤ 6) (ho : os.length = 2) :
    Ok (n_law_order ns seed nm at' cl pl free os kinds) fun r => ∃ o : DK.TO, r = o.d ∧ o.1 = nm ∧ OrOk (cl.map (·.1)) (pl.map (·.1)) os ok o ∧ (kinds = [] → ∃ c, o.2.2 = [Rl.rest c]) := by
  unfold n_law_order
  refine ok_bind (mixed_ok seed at' (by omega)) fun m hm => ?_
  refine ok_bind (ok_atI (R := fun y => 0 ≤ y ∧ y ≤ 6) (Int.emod_nonneg _ (by omega)) (by have := Int.emod_lt_of_pos m (show (0 : Int) < 6 by omega); show _ < (6 : Int); omega) fun y hy => by
    simp only [List.mem_cons, List.not_mem_nil, or_false] at hy; omega) fun q hq => ?_
  rw [minI_eq]
  refine ok_eq (rng1_eq (by omega) (by omega)) ?_
  refine ok_bind (ok_fold0 (I := fun done xs => xs.length = done.length ∧ ∀ p ∈ xs, p.1 ∈ cl.map (·.1) ∧ 1 ≤ p.2 ∧ p.2 ≤ 10) ⟨rfl, by simp⟩ fun pre x post s hp2 hi => ?_) fun parts hparts => ?_
  · obtain ⟨hx, hlt⟩ := rngN_pre hp2
    refine ok_bind (mixed_ok seed (at' + 40 + x) (by omega)) fun n hn => ?_
    refine ok_bind (ok_atI (R := fun y => 2 ≤ y ∧ y ≤ 10) (Int.emod_nonneg _ (by omega)) (by have := Int.emod_lt_of_pos (m / 6) (show (0 : Int) < 3 by omega); show _ < (3 : Int); omega) fun y hy => by
      simp only [List.mem_cons, List.not_mem_nil, or_false] at hy; omega) fun t ht => ?_
    refine ok_bind (ok_mod (by omega)) fun u hu => ?_
    refine ok_bind (ok_mod (by omega)) fun v hv => ?_
    refine ok_bind (ok_atI (R := fun c => c ∈ cl) hv.1 hv.2 fun _ h => h) fun c hc2 => ?_
    refine ok_eq (push_eq (by omega)) (ok_some ⟨by rw [List.length_append, List.length_append, hi.1]; rfl, fun p hp => ?_⟩)
    rcases List.mem_append.mp hp with hp | hp
    · exact hi.2 p hp
    · rw [List.mem_singleton.mp hp]; exact ⟨nmap hc2, by show 1 ≤ 1 + u; omega, by show 1 + u ≤ 10; omega⟩
  have hpl := hparts.1
  rw [rngN_len] at hpl
  refine ok_eq (eqQ_empty_S hks) ?_
  refine ok_bind (Q := fun ds => ∃ rs : List Rl, ds = rs.map Rl.d ∧ rs.length ≤ 8 ∧ (∀ r ∈ rs, r.In (cl.map (·.1)) (pl.map (·.1)) os ∧ ok r) ∧ (kinds = [] → rs = [])) ?_ fun ds hds => ?_
  · refine ok_ite (fun hb => ?_) (fun _ => ok_some ⟨[], rfl, by simp, by simp, fun _ => rfl⟩)
    have hne : kinds ≠ [] := by simpa using hb
    have hkl : 1 ≤ kinds.length := by cases kinds with | nil => exact absurd rfl hne | cons => simp
    refine ok_bind (ok_atI (R := fun y => 0 ≤ y ∧ y ≤ 8) (Int.emod_nonneg _ (by omega)) (by have := Int.emod_lt_of_pos (m / 864) (show (0 : Int) < 4 by omega); show _ < (4 : Int); omega) fun y hy => by
      simp only [List.mem_cons, List.not_mem_nil, or_false] at hy; omega) fun q hq => ?_
    refine ok_eq (rng1_eq (by omega) (by omega)) ?_
    refine ok_bind (ok_fold0 (I := fun done ds => ∃ rs : List Rl, ds = rs.map Rl.d ∧ rs.length = done.length ∧ ∀ r ∈ rs, r.In (cl.map (·.1)) (pl.map (·.1)) os ∧ ok r) ⟨[], rfl, rfl, by simp⟩ fun pre x post s hp2 hi => ?_) fun s hs2 => ?_
    · obtain ⟨hx, hlt⟩ := rngN_pre hp2
      obtain ⟨rs, rfl, h1, h2⟩ := hi
      refine ok_bind (Q := fun _ => True) ?_ fun c _ => ?_
      · unfold n_law_cell
        refine ok_dite (fun h => ?_) (fun _ => ok_some trivial)
        exact ok_bind (ok_atI (R := fun _ => True) (by omega) h fun _ _ => trivial) fun _ _ => ok_some trivial
      refine ok_bind (mixed_ok (seed + c) (at' + x) (by omega)) fun n hn => ?_
      refine ok_bind (rule_ok n hn hk hkl hc hp hs hfs hf hfn hfl ho) fun d hd => ?_
      obtain ⟨r, rfl, hr, hr2⟩ := hd
      refine ok_eq (push_eq (by rw [List.length_map]; omega)) (ok_some ⟨rs ++ [r], by simp, by simp [h1], fun z hz => ?_⟩)
      rcases List.mem_append.mp hz with hz | hz
      · exact h2 z hz
      · rw [List.mem_singleton.mp hz]; exact ⟨hr, hr2⟩
    · obtain ⟨rs, rfl, h1, h2⟩ := hs2
      rw [rngN_len] at h1
      exact ok_some ⟨rs, rfl, by omega, h2, fun h => absurd h hne⟩
  obtain ⟨rs, rfl, h1, h2, h3⟩ := hds
  refine ok_bind (ok_mod (by omega)) fun v hv => ?_
  refine ok_bind (ok_atI (R := fun c => c ∈ cl) hv.1 hv.2 fun _ h => h) fun c hc2 => ?_
  refine ok_eq (push_eq (by rw [List.length_map]; omega)) (ok_some ⟨(nm, parts, rs ++ [Rl.rest c.1]), ?_, rfl, ⟨⟨by show parts.length ≤ 6; omega, hparts.2⟩, rs, c.1, rfl, nmap hc2, h1, h2⟩, fun h => ⟨c.1, ?_⟩⟩)
  · show _ = (nm, parts, (rs ++ [Rl.rest c.1]).map Rl.d)
    rw [List.map_append]; rfl
  · show rs ++ _ = _
    rw [h3 h]; rfl
abbrev TP : Type := Nm × (List TSII) × (List TSI) × (List Nm) × (List DK.TO) × (List TSS)
def TP.d (p : TP) : R3 := (p.1, p.2.1, p.2.2.1, p.2.2.2.1, p.2.2.2.2.1.map DK.TO.d, [], p.2.2.2.2.2)
theorem rl_clean (r : Rl) : cleanD r.d = true := by
  cases r with
  | share l => exact cd_t (cds_c cd_s (cds_c (cd_q (fun _ => cd_s) l) cds_n))
  | lend o x => exact cd_t (cds_c cd_s (cds_c cd_s (cds_c cd_i cds_n)))
  | _ => exact cd_t (cds_c cd_s (cds_c cd_s cds_n))
theorem chk_order (o : DK.TO) : chkV (.tup [.p (eS o.d.1), oL eTSI o.d.2.1, oL eD o.d.2.2]) = some 0 := by
  unfold chkV
  rw [if_pos]
  refine cv_t (cvs_c (cv_p cd_s) (cvs_c (cv_o (fun _ => cd_t (cds_c cd_s (cds_c cd_i cds_n))) _) (cvs_c ?_ cvs_n)))
  have e : oL eD o.d.2.2 = oL Rl.d o.2.2 := by
    show T.lst (((o.2.2.map Rl.d).map eD).map T.p) = T.lst ((o.2.2.map Rl.d).map T.p)
    rw [show ((o.2.2.map Rl.d).map eD) = o.2.2.map Rl.d from List.map_id _]
  rw [e]
  exact cv_o rl_clean _
structure PlOk (N : List Nm) (ok : Rl → Prop) (t : TP) : Prop where
  nlen : N.length = 12
  nnd : N.Nodup
  low : ∀ n ∈ N, Low n
  nm : t.1 = N.getD 0 []
  cl : ClOk N t.2.1
  pt : PtOk N t.2.2.1
  eat : ∃ k, t.2.2.2.1 = (t.2.1.take k).map (·.1)
  olen : t.2.2.2.2.1.length = 2
  ond : (t.2.2.2.2.1.map (·.1)).Nodup
  osok : ∀ n ∈ t.2.2.2.2.1.map (·.1), Low n
  ord : ∀ o ∈ t.2.2.2.2.1, OrOk (t.2.1.map (·.1)) (t.2.2.1.map (·.1)) (N.drop 10) ok o
  gd : GdOk (t.2.1.map (·.1)) (t.2.2.1.map (·.1)) t.2.2.2.2.2
theorem cut10 {N : List Nm} (h : N.length = 12) : cutA N (some 10) none = N.drop 10 := by
  unfold cutA
  rw [show HT.sIx N.length N.length none = N.length from rfl, sIx_i (by omega), Nat.min_eq_left (by show Int.toNat 10 ≤ _; rw [h]; decide)]
  rw [List.take_of_length_le (by rw [List.length_drop]; exact Nat.le_refl _)]; rfl
theorem pool_ok (ns : List Int) (seed : Int) {kinds : List Nm} {ok : Rl → Prop} (hk : Kinds kinds ok) (hks : ∀ k ∈ kinds, Sok k) :
    Ok (n_law_pool ns seed kinds) fun p => ∃ (t : TP) (N : List Nm), p = t.d ∧ PlOk N ok t ∧ n_law_names seed 12 = some N ∧ (kinds = [] → ∀ o ∈ t.2.2.2.2.1, ∃ c, o.2.2 = [Rl.rest c]) := by
  unfold n_law_pool
  obtain ⟨N, hN, h12, hnd, hlow⟩ := names_ok seed 12 (by omega)
  have h12 : N.length = 12 := h12
  rw [hN, bindS]
  refine ok_bind (mixed_ok seed 1 (by omega)) fun m hm => ?_
  refine ok_bind (claims_ok seed m h12) fun cl hcl => ?_
  refine ok_eq (rng1_eq (by omega) (by omega)) ?_
  refine ok_bind (ok_fold0 (I := fun done pl => pl.length = done.length ∧ pl.map (·.1) = seg N 7 pl.length ∧ ∀ c ∈ pl, 1 ≤ c.2 ∧ c.2 ≤ 1000000000000) ⟨rfl, by unfold seg; simp, by simp⟩ fun pre x post s hp hi => ?_) fun pl hpl => ?_
  · obtain ⟨hx, hlt⟩ := rngN_pre hp
    refine ok_eq (divN_eq (by omega) (by omega)) ?_
    refine ok_bind (pick9 _) fun b hb => ?_
    refine ok_bind (coins_ok _ _ b (by omega) hb) fun z hz => ?_
    refine ok_eq (getD_of [] (by omega) (by omega)) ?_
    refine ok_eq (push_eq (by omega)) (ok_some ⟨by rw [List.length_append, List.length_append, hi.1]; rfl, ?_, fun c hc => ?_⟩)
    · rw [List.map_append, hi.2.1, List.length_append, List.length_singleton, seg_snoc (by omega), hi.1, show (7 + x).toNat = 7 + pre.length by omega]; rfl
    · rcases List.mem_append.mp hc with hc | hc
      · exact hi.2.2 c hc
      · rw [List.mem_singleton] at hc; subst hc
        exact ⟨hz.1, show z ≤ _ by omega⟩
  have hl := hpl.1
  rw [rngN_len] at hl
  have hPt : PtOk N pl := ⟨by omega, hpl.2.1, hpl.2.2⟩
  have sP : ∀ n ∈ pl.map (·.1), Sok n := fun n hn => by
    rw [hPt.names] at hn
    exact (hlow n (seg_mem hn)).sok
  have sC : ∀ n ∈ cl.map (·.1), Sok n := fun n hn => by
    rw [hcl.names] at hn
    exact (hlow n (seg_mem hn)).sok
  have cN : (cl.map (·.1)).Nodup := by rw [hcl.names]; exact seg_nodup hnd
  refine ok_bind (guards_ok (m / 288) (by omega) hcl.len hPt.len sP) fun gs hgs => ?_
  have hgl := hgs.len
  refine ok_eq (compT_eq (by omega)) ?_
  have hcl6 := hcl.len
  refine ok_eq (compTF_eq (by omega)) ?_
  refine ok_bind (names_ok (seed + 1) 2 (by omega)) fun M hM => ?_
  obtain ⟨hM2, hMnd, hMlow⟩ := hM
  have hM2 : M.length = 2 := hM2
  refine ok_eq (rng1_eq (by omega) (by omega)) ?_
  rw [cut10 h12]
  obtain ⟨free, hfree⟩ : ∃ free, free = (cl.filter fun x18 => !decide (x18.1 ∈ gs.map fun x16 => x16.2)).map fun x18 => x18.1 := ⟨_, rfl⟩
  rw [← hfree]
  have hfsub : free.Sublist (cl.map (·.1)) := by rw [hfree]; exact (List.filter_sublist).map _
  have hfl := hfsub.length_le
  rw [List.length_map] at hfl
  refine ok_bind (ok_fold0 (I := fun done xs => ∃ ts : List DK.TO, xs = ts.map DK.TO.d ∧ ts.length = done.length ∧ ts.map (·.1) = M.take ts.length ∧ (∀ o ∈ ts, OrOk (cl.map (·.1)) (pl.map (·.1)) (N.drop 10) ok o) ∧ (kinds = [] → ∀ o ∈ ts, ∃ c, o.2.2 = [Rl.rest c])) ⟨[], rfl, rfl, rfl, by simp, by simp⟩ fun pre x post s hp hi => ?_) fun ors hors => ?_
  · obtain ⟨hx, hlt⟩ := rngN_pre hp
    have hlt : pre.length < 2 := hlt
    obtain ⟨ts, rfl, h1, h2, h3, h4⟩ := hi
    refine ok_eq (getD_of [] (by omega) (by omega)) ?_
    refine ok_bind (order_ok ns seed (3 + 9 * x) (by omega) (M.getD x.toNat []) hk hks hcl.len hPt.len sP (fun n hn => sC n (hfsub.subset hn)) (fun n hn => hfsub.subset hn) (cN.sublist hfsub) (by omega) (by rw [List.length_drop]; omega)) fun o ho => ?_
    obtain ⟨o, rfl, e1, e2, e3⟩ := ho
    refine ok_eq (chk_order o) ?_
    refine ok_eq (push_eq (by rw [List.length_map]; omega)) (ok_some ⟨ts ++ [o], by simp, by simp [h1], ?_, fun c hc => ?_, fun hh c hc => ?_⟩)
    · rw [List.map_append, h2, List.length_append, List.length_singleton, List.take_add_one, List.map_singleton, e1, show x.toNat = ts.length by omega, List.getD_eq_getElem?_getD, List.getElem?_eq_getElem (by omega)]; rfl
    · rcases List.mem_append.mp hc with hc | hc
      · exact h3 c hc
      · rw [List.mem_singleton.mp hc]; exact e2
    · rcases List.mem_append.mp hc with hc | hc
      · exact h4 hh c hc
      · rw [List.mem_singleton.mp hc]; exact e3 hh
  obtain ⟨ts, rfl, h1, h2, h3, h4⟩ := hors
  have h1 : ts.length = 2 := h1
  rw [cutTake (by omega)]
  refine ok_eq (compT_eq (by rw [List.length_take]; omega)) ?_
  refine ok_eq (getD_of [] (by omega) (by omega)) ?_
  refine ok_some ⟨(N.getD 0 [], cl, pl, (cl.take (m / 7 % 7).toNat).map (·.1), ts, gs), N, rfl, ⟨h12, hnd, hlow, rfl, hcl, hPt, ⟨_, rfl⟩, h1, ?_, fun n hn => ?_, h3, hgs⟩, rfl, h4⟩
  · show (ts.map (·.1)).Nodup
    rw [h2]
    exact hMnd.sublist (List.take_sublist _ _)
  · have hn : n ∈ ts.map (·.1) := hn
    rw [h2] at hn
    exact hMlow n (List.mem_of_mem_take hn)
end FA
set_option Elab.async false
set_option linter.all false
set_option maxRecDepth 100000
set_option maxHeartbeats 1000000
namespace FA
open PySem PySem.Spec PyProof.Rows L2 DL FAN
open DK (getD_of cutTake Rl S upf lk_S putK_S mkK_S S_of S_len S_keys)
structure BkOk (t : TP) (b : R4) : Prop where
  sizes : b.1.map (·.1) = t.2.1.map (·.1)
  owed : b.2.1.map (·.1) = t.2.1.map (·.1)
  runs : b.2.2.1.map (·.1) = t.2.1.map (·.1)
  levels : b.2.2.2.1.map (·.1) = t.2.2.1.map (·.1)
  szb : ∀ x ∈ b.1, 0 ≤ x.2 ∧ x.2 ≤ 1000000000000
  owb : ∀ x ∈ b.2.1, 0 ≤ x.2 ∧ x.2 ≤ 30000000000000
  rnb : ∀ x ∈ b.2.2.1, 0 ≤ x.2
  lvb : ∀ x ∈ t.2.2.1, ∃ l, (x.1, l) ∈ b.2.2.2.1 ∧ 0 ≤ l ∧ l ≤ x.2
structure LnOk (ow : Nm) (os : List Nm) (l : List TSSI) : Prop where
  len : l.length ≤ 4
  mem : ∀ x ∈ l, ((x.1 = ow ∧ x.2.1 ∈ os) ∨ (x.2.1 = ow ∧ x.1 ∈ os)) ∧ 1 ≤ x.2.2 ∧ x.2.2 ≤ 1000000000000
  nd : (l.map fun x => (x.1, x.2.1)).Nodup
theorem sum_bd {B : Int} : ∀ {xs : List Int}, (∀ x ∈ xs, 0 ≤ x ∧ x ≤ B) → 0 ≤ xs.sum ∧ xs.sum ≤ B * xs.length
  | [], _ => by simp
  | x :: xs, h => by
    have h1 := h x (by simp)
    have h2 := sum_bd fun y hy => h y (List.mem_cons_of_mem x hy)
    rw [List.sum_cons, List.length_cons]
    have : B * ((xs.length + 1 : Nat) : Int) = B * xs.length + B := by rw [Int.natCast_add, Int.mul_add]; simp
    omega
end FA
set_option Elab.async false
set_option linter.all false
set_option maxRecDepth 100000
set_option maxHeartbeats 1000000
namespace FA
open PySem PySem.Spec PyProof.Rows L2 DL FAN
open DK (getD_of cutTake Rl S upf lk_S putK_S mkK_S S_of S_len S_keys)
def bump : Nat → List Int → List Int
  | 0, xs => xs
  | _, [] => []
  | n + 1, x :: xs => (x + 1) :: bump n xs
def asks (ps : List TSI) (came : Int) : List Int :=
  if 10 < (ps.map fun p => p.2).sum then ps.map fun p => (came * p.2 + 9) / 10
  else bump ((came * (ps.map fun p => p.2).sum / 10) - (ps.map fun p => came * p.2 / 10).sum).toNat (ps.map fun p => came * p.2 / 10)
def over (ps : List TSI) (came : Int) : Int := if 10 < (ps.map fun p => p.2).sum then (asks ps came).sum - came else 0
structure PsOk (ps : List TSI) : Prop where
  len : ps.length ≤ 6
  t : ∀ p ∈ ps, 1 ≤ p.2 ∧ p.2 ≤ 10
theorem PsOk.sum {ps : List TSI} (h : PsOk ps) : 0 ≤ (ps.map fun p => p.2).sum ∧ (ps.map fun p => p.2).sum ≤ 60 := by
  have h1 := h.len
  have := sum_bd (xs := ps.map fun p => p.2) (B := 10) fun x hx => by obtain ⟨y, hy, rfl⟩ := List.mem_map.mp hx; have := h.t y hy; omega
  rw [List.length_map] at this
  omega
def PE : Nat → List TSI → List Int → Int → List TISSII × Int
  | k, p :: ps, a :: as, cash => (((k : Int), cod "part", p.1, a, minI a cash) :: (PE (k + 1) ps as (cash - minI a cash)).1, (PE (k + 1) ps as (cash - minI a cash)).2)
  | _, _, _, cash => ([], cash)
def partRows (ps : List TSI) (came cash : Int) : List TISSII := (PE 0 ps (asks ps came) cash).1 ++ (if 0 < over ps came then [(-1, cod "twice", cod "", (asks ps came).sum, came)] else [])
def partCash (ps : List TSI) (came cash : Int) : Int := (PE 0 ps (asks ps came) cash).2
end FA
set_option Elab.async false
set_option linter.all false
set_option maxRecDepth 100000
set_option maxHeartbeats 1000000
namespace FA
open PySem PySem.Spec PyProof.Rows L2 DL FAN
open DK (getD_of cutTake Rl S upf lk_S putK_S mkK_S S_of S_len S_keys)
structure St where
  cash : Int
  sz : Nm → Int
  ow : Nm → Int
  lv : Nm → Int
  ln : TSS → Int
  rows : List TISSII
  mv : List (Nm × Nm × Int)
  sv : List Nm
def served (sv l : List Nm) (need got : Int) : List Nm := if 0 < need ∧ got = need then sv ++ l else sv
def shR (k : Int) : List Nm → List Int → List Int → List TISSII
  | c :: cs, n :: ns, g :: gs => (k, cod "share", c, n, g) :: shR k cs ns gs
  | _, _, _ => []
def shO : (Nm → Int) → List Nm → List Int → (Nm → Int)
  | ow, c :: cs, g :: gs => shO (upf ow c (ow c - g)) cs gs
  | ow, _, _ => ow
def oddg : List Int → List Int → Int → List Int × Int
  | n :: ns, g :: gs, o => if 0 < o ∧ g < n then ((g + 1) :: (oddg ns gs (o - 1)).1, (oddg ns gs (o - 1)).2) else (g :: (oddg ns gs o).1, (oddg ns gs o).2)
  | _, gs, o => (gs, o)
def gots (needs : List Int) (cash : Int) : List Int :=
  if needs.sum ≤ cash then needs else (oddg needs (needs.map fun n => cash * n / needs.sum) (cash - (needs.map fun n => cash * n / needs.sum).sum)).1
def lendStep (own : Nm) (k : Int) (s : St) (o : Nm) (need : Int) (got : Int) : St :=
  { s with cash := s.cash - got, ln := upf s.ln (own, o) (s.ln (own, o) + got), rows := s.rows ++ [(k, cod "lend", o, need, got)], mv := if 0 < got then s.mv ++ [(cod "lend", o, got)] else s.mv }
def step (own : Nm) (mk : Nm → Int) (k : Int) (s : St) : Rl → St
  | .pay c => { s with cash := s.cash - minI (s.ow c) s.cash, ow := upf s.ow c (s.ow c - minI (s.ow c) s.cash), rows := s.rows ++ [(k, cod "pay", c, s.ow c, minI (s.ow c) s.cash)], sv := served s.sv [c] (s.ow c) (minI (s.ow c) s.cash) }
  | .share l => { s with cash := s.cash - (gots (l.map s.ow) s.cash).sum, ow := shO s.ow l (gots (l.map s.ow) s.cash), rows := s.rows ++ shR k l (l.map s.ow) (gots (l.map s.ow) s.cash), sv := served s.sv l (l.map s.ow).sum (gots (l.map s.ow) s.cash).sum }
  | .repay c => { s with cash := s.cash - minI (s.ow c + s.sz c) s.cash, ow := upf s.ow c (s.ow c - minI (minI (s.ow c + s.sz c) s.cash) (s.ow c)), sz := upf s.sz c (s.sz c - (minI (s.ow c + s.sz c) s.cash - minI (minI (s.ow c + s.sz c) s.cash) (s.ow c))), rows := s.rows ++ [(k, cod "repay", c, s.ow c + s.sz c, minI (s.ow c + s.sz c) s.cash)], sv := served s.sv [c] (s.ow c + s.sz c) (minI (s.ow c + s.sz c) s.cash) }
  | .fill p => { s with cash := s.cash - minI (mk p - s.lv p) s.cash, lv := upf s.lv p (s.lv p + minI (mk p - s.lv p) s.cash), rows := s.rows ++ [(k, cod "fill", p, mk p - s.lv p, minI (mk p - s.lv p) s.cash)] }
  | .lend o x => lendStep own k s o (maxI 0 (x - s.ln (own, o))) (minI (maxI 0 (x - s.ln (own, o))) s.cash)
  | .back o => { s with cash := s.cash - minI (s.ln (o, own)) s.cash, ln := upf s.ln (o, own) (s.ln (o, own) - minI (s.ln (o, own)) s.cash), rows := s.rows ++ [(k, cod "back", o, s.ln (o, own), minI (s.ln (o, own)) s.cash)], mv := if 0 < minI (s.ln (o, own)) s.cash then s.mv ++ [(cod "back", o, minI (s.ln (o, own)) s.cash)] else s.mv }
  | .rest c => { s with cash := 0, rows := s.rows ++ [(k, cod "rest", c, s.cash, s.cash)] }
def walk (own : Nm) (mk : Nm → Int) : Int → St → List Rl → St
  | _, s, [] => s
  | k, s, r :: rs => walk own mk (k + 1) (step own mk k s r) rs
def mvD (m : Nm × Nm × Int) : TDDI := (eS m.1, eS m.2.1, m.2.2)
def Sv (d : List (Nm × Bool)) (l : List Nm) : Prop := ∀ c, (lkN d c).isSome = decide (c ∈ l)
abbrev PT : Type := Int × (List (Nm × Int)) × (List (Nm × Int)) × (List (Nm × Int)) × (List (TSS × Int)) × (List TISSII) × (List TDDI) × (List (Nm × Bool))
structure RP (cs ps : List Nm) (n : Nat) (s : St) (x : PT) : Prop where
  cash : x.1 = s.cash
  sz : x.2.1 = S cs s.sz
  ow : x.2.2.1 = S cs s.ow
  lv : x.2.2.2.1 = S ps s.lv
  ln : x.2.2.2.2.1.length ≤ n ∧ ∀ p, (lkN x.2.2.2.2.1 p).getD 0 = s.ln p
  rows : x.2.2.2.2.2.1 = s.rows ∧ s.rows.length ≤ n
  mv : x.2.2.2.2.2.2.1 = s.mv.map mvD ∧ s.mv.length ≤ n
  sv : x.2.2.2.2.2.2.2.length ≤ n ∧ Sv x.2.2.2.2.2.2.2 s.sv
theorem putN_len {κ α : Type} [DecidableEq κ] (kv : List (κ × α)) (k : κ) (x : α) : (putN kv k x).length ≤ kv.length + 1 := by
  unfold putN
  split
  · rw [List.length_map]; omega
  · rw [List.length_append]; simp
theorem putK_eq {κ α : Type} [DecidableEq κ] {kv : List (κ × α)} {k : κ} {x : α} (h : kv.length < 16000000) : DL.putK kv k x = some (putN kv k x) := if_pos h
theorem asSN_S (c : Nm) : asSN (eS c) = some c := rfl
section
variable {cs ps os : List Nm} {own : Nm} {mk : Nm → Int} {k : Int} {n : Nat} {s : St} {x : PT}
def noShare : Rl → Prop
  | .share _ => False
  | _ => True
end
end FA
set_option Elab.async false
set_option linter.all false
set_option maxRecDepth 100000
set_option maxHeartbeats 1000000
namespace FA
open PySem PySem.Spec PyProof.Rows L2 DL FAN
open DK (getD_of cutTake Rl S upf lk_S putK_S mkK_S S_of S_len S_keys)
def gstep (k : Int) (s : St) (g : TSS) : St := { s with lv := upf s.lv g.1 (s.lv g.1 - minI (s.lv g.1) (s.ow g.2)), ow := upf s.ow g.2 (s.ow g.2 - minI (s.lv g.1) (s.ow g.2)), rows := s.rows ++ [(k, cod "guard", g.2, s.ow g.2, minI (s.lv g.1) (s.ow g.2))] }
def gwalk : Nat → St → List TSS → St
  | _, s, [] => s
  | k, s, g :: gs => gwalk (k + 1) (gstep (k : Int) s g) gs
section
variable {cs ps os : List Nm} {own : Nm} {mk : Nm → Int}
end
structure Dr (t : TP) (b : R4) (cs ps : List Nm) (sz ow rn lv mk : Nm → Int) : Prop where
  ecs : t.2.1.map (·.1) = cs
  eps : t.2.2.1 = S ps mk
  cn : cs.Nodup
  pn : ps.Nodup
  cl : 1 ≤ cs.length ∧ cs.length ≤ 6
  pl : ps.length ≤ 3
  b1 : b.1 = S cs sz
  b2 : b.2.1 = S cs ow
  b3 : b.2.2.1 = S cs rn
  b4 : b.2.2.2.1 = S ps lv
  nsz : ∀ c, 0 ≤ sz c
  now : ∀ c, 0 ≤ ow c ∧ ow c ≤ 30000000000000
  nlv : ∀ p, 0 ≤ lv p ∧ lv p ≤ mk p
def LN (l : List TSSI) (p : TSS) : Int := (lkN (l.map fun x => ((x.1, x.2.1), x.2.2)) p).getD 0
def St0 (o : DK.TO) (came : Int) (sz ow lv : Nm → Int) (l : List TSSI) : St := ⟨partCash o.2.1 came came, sz, ow, lv, LN l, partRows o.2.1 came came, [], []⟩
def fin (own : Nm) (mk : Nm → Int) (gs : List TSS) (o : DK.TO) (came : Int) (sz ow lv : Nm → Int) (l : List TSSI) : St := gwalk 0 (walk own mk (o.2.1.length : Int) (St0 o came sz ow lv l) o.2.2) gs
def out (cs ps : List Nm) (sz rn : Nm → Int) (lost : Int) (s : St) : R10 := (s.rows, (S cs s.sz, S cs s.ow, S cs (fun c => if 0 < sz c ∧ c ∉ s.sv then rn c + 1 else 0), S ps s.lv, lost), s.mv.map mvD)
theorem OrOk.all {cs ps os : List Nm} {ok : Rl → Prop} {o : DK.TO} (h : OrOk cs ps os ok o) : (∀ r ∈ o.2.2, r.In cs ps os ∨ ∃ c ∈ cs, r = .rest c) ∧ o.2.2.length ≤ 9 ∧ 1 ≤ o.2.2.length := by
  obtain ⟨rs, c, e, h1, h2, h3⟩ := h.rules
  rw [e]
  refine ⟨fun r hr => ?_, by simp; omega, by simp⟩
  rcases List.mem_append.mp hr with hr | hr
  · exact .inl (h3 r hr).1
  · exact .inr ⟨c, h1, List.mem_singleton.mp hr⟩
end FA
set_option Elab.async false
set_option linter.all false
set_option maxRecDepth 100000
set_option maxHeartbeats 1000000
namespace FA
open PySem PySem.Spec PyProof.Rows L2 DL FAN
open DK (getD_of cutTake Rl S upf lk_S putK_S mkK_S S_of S_len S_keys)
structure Few (n : Nat) (s : St) : Prop where
  rows : s.rows.length ≤ n
  sv : s.sv.length ≤ n
  mv : s.mv.length ≤ n
def noLoan : Rl → Prop
  | .lend _ _ => False
  | .back _ => False
  | _ => True
theorem aL {n : Nat} {α : Type} {e : α → D} {xs : List α} (hl : xs.length ≤ 1000000) (h : ∀ x ∈ xs, LW.aOk n (e x) = true) : LW.aOk (n + 1) (eLs e xs) = true := by
  unfold LW.aOk
  rw [Bool.and_eq_true]
  refine ⟨decide_eq_true (by rw [List.length_map]; exact hl), LW.aOks_all.mpr fun d hd => ?_⟩
  obtain ⟨x, hx, rfl⟩ := List.mem_map.mp hd
  exact h x hx
theorem aT {n : Nat} {ds : List D} (hl : ds.length ≤ 1000000) (h : ∀ x ∈ ds, LW.aOk n x = true) : LW.aOk (n + 1) (.tup ds) = true := by
  unfold LW.aOk
  rw [Bool.and_eq_true]
  exact ⟨decide_eq_true hl, LW.aOks_all.mpr h⟩
theorem aI {n : Nat} {i : Int} : LW.aOk n (.int i) = true := by unfold LW.aOk; rfl
theorem aS {n : Nat} {w : Nm} : LW.aOk n (eS w) = true := by unfold LW.aOk; rfl
section
variable {δ : Type}
def oneG (kinds : List Nm) (due : R3 → FAN.R2 → R4 → Int → List TSSI → Option δ) (eD' : δ → D) (p_law_script : List Int) (p_law_seed : Int) : Option Bool :=
  (n_law_pool p_law_script p_law_seed kinds).bind fun x1 =>
  (n_law_mixed p_law_seed (2 : Int)).bind fun x2 =>
  (atI x1.2.2.2.2.1 (x2 % (2 : Int))).bind fun x3 =>
  (n_law_book p_law_seed x1).bind fun x4 =>
  (n_law_names p_law_seed (12 : Int)).bind fun x5 =>
  (n_law_loans p_law_seed x1 (cutA x5 (some (10 : Int)) none)).bind fun x6 =>
  (n_law_came p_law_seed x1 x4).bind fun x7 =>
  (n_law_copied x4).bind fun x8 =>
  (n_fell x1 x3.1 x8 x7 x6).bind fun x9 =>
  (due x1 x3 x4 x7 x6).bind fun x10 =>
  (opB (LW.phi_law_alike 8 [(eR10 x9), (eD' x10)])).bind fun x11 =>
  (if (!x11) = true then
  (some false)
  else ((push (x9.1.map eTISSII) (D.int (7 : Int))).bind fun x12 =>
  (push (x9.2.1.1.map eTSI) (D.int (7 : Int))).bind fun x13 =>
  (push (x9.2.1.2.1.map eTSI) (D.int (7 : Int))).bind fun x14 =>
  (push (x9.2.1.2.2.1.map eTSI) (D.int (7 : Int))).bind fun x15 =>
  (push (x9.2.1.2.2.2.1.map eTSI) (D.int (7 : Int))).bind fun x16 =>
  (push (x9.2.2.map eTDDI) (D.int (7 : Int))).bind fun x17 =>
  (eqQ (D.lst [(eR4 x8), (eLs eTSSI x6)]) (eLs eD [eR4 x4, (eLs eTSSI) x6])).bind fun x18 =>
  (if (!x18) = true then
  (some false)
  else ((n_fell x1 x3.1 x8 x7 x6).bind fun x19 =>
  (opB (LW.phi_law_alike 8 [(eR10 x19), (eD' x10)])).bind fun x20 =>
  some x20))))
def lawG (one : List Int → Int → Option Bool) (p_law_script : List Int) : Option Bool :=
  (n_law_fold p_law_script).bind fun x1 =>
  (rng1  (4 : Int)).bind fun x2 =>
  (foldB (ρ := Bool) (fun (x4 : Int) (s3 : Unit) =>
  (n_law_mixed x1 ((700 : Int) + x4)).bind fun x6 =>
  (one p_law_script x6).bind fun x7 =>
  (if (!x7) = true then
  (some (Lp.rt false))
  else (some (Lp.nx ())))) x2 ()).bind (lpK (fun s8 =>
  some true) (fun r => some r))
end
end FA
set_option Elab.async false
set_option linter.all false
set_option maxRecDepth 100000
set_option maxHeartbeats 1000000
namespace FA
open PySem PySem.Spec PyProof.Rows L2 DL FAN
open DK (getD_of cutTake Rl S upf lk_S putK_S mkK_S S_of S_len S_keys)
section
variable {cs ps : List Nm} {own : Nm} {mk : Nm → Int} {k : Int} {n : Nat} {s : St}
end
structure OF (t : TP) (cs ps os : List Nm) (ok : Rl → Prop) (o : DK.TO) : Prop where
  P : PsOk o.2.1
  rules : ∀ r ∈ o.2.2, (r.In cs ps os ∧ ok r) ∨ ∃ c ∈ cs, r = .rest c
  len : o.2.2.length ≤ 9
  gd : t.2.2.2.2.2.length ≤ 3 ∧ ∀ g ∈ t.2.2.2.2.2, g.1 ∈ ps ∧ g.2 ∈ cs
abbrev mid (own : Nm) (mk : Nm → Int) (o : DK.TO) (came : Int) (sz ow lv : Nm → Int) (l : List TSSI) : St := walk own mk (o.2.1.length : Int) (St0 o came sz ow lv l) o.2.2
end FA
set_option Elab.async false
set_option linter.all false
set_option maxRecDepth 100000
set_option maxHeartbeats 1000000
namespace DL
open PySem PySem.Spec PyProof.Rows L2
section
variable {F : SF} {G : GF} {it : Env → Option (List D × Env)} {B : SF} {Q : Fl → Env → Prop} {env e1 : Env} {ds : List D} {σ ρ α : Type}
theorem runL_wp {m : List Bool} {n : Nat} {us us' : List T} {t : T} (hl : us.length = m.length) (h : Wp (F (startU n us)) fun fl e => (fl = .rt t ∨ (fl = .nx ∧ t = .p .non)) ∧ backs m us e = some us') : runL m n F us = some (t, us') := by
  obtain ⟨fl, e, h1, h2, h3⟩ := h
  unfold runL
  rw [if_pos hl, h1]
  show (backs m us e).bind _ = _
  rw [h3]
  rcases h2 with rfl | ⟨rfl, rfl⟩ <;> rfl
theorem e_callL {φ : List T → Option (T × List T)} {ls : List (Option Nat)} {ra : AF} {us us' : List T} {t : T} {e' : Env} (ha : ra env = some (us, e1)) (hc : φ us = some (t, us')) (hl : us'.length = us.length) (he : putL ls us' e1 = e') : eCallL φ ls ra env = some (t, e') := by
  subst he
  unfold eCallL
  rw [ha]
  show (φ us).bind _ = _
  rw [hc]
  show (if us'.length = us.length then _ else _) = _
  rw [if_pos hl]
def QR (R : σ → Env → Prop) (RT : ρ → Fl → Env → Prop) : Lp σ ρ → Fl → Env → Prop
  | .nx s => fun fl e => (fl = .nx ∨ fl = .ct) ∧ R s e
  | .bk s => fun fl e => fl = .bk ∧ R s e
  | .rt r => RT r
def EndR (R : σ → Env → Prop) (RT : ρ → Fl → Env → Prop) : Lp σ ρ → Fl → Env → Prop
  | .nx s => fun fl e => fl = .nx ∧ R s e
  | .bk _ => fun _ _ => False
  | .rt r => RT r
end
def repL {α : Type} (xs : List α) (k : Int) : Option (List α) := if -(2 ^ 63) ≤ k ∧ k < 2 ^ 63 ∧ xs.length * k.toNat ≤ 16777216 then some (List.replicate k.toNat xs).flatten else none
def lookU (u : Option T) : Option T := u.map fun t => T.p t.toD
end DL
set_option Elab.async false
set_option linter.all false
set_option maxRecDepth 100000
set_option maxHeartbeats 1000000
namespace DL
open PySem PySem.Spec PyProof.Rows L2
section
variable {α : Type} {E : α → T} {env e e1 e' : Env} {i j : Nat} {f fk : EF} {po fo : PF} {P : List Stp} {a : Int} {Q : Fl → Env → Prop} {B F : SF}
abbrev oH (E : α → T) (xs : List α) (j : Nat) (u : T) : T := .lst ((xs.map E).set j u)
def setN (xs : List α) (j : Nat) (x : α) : Option (List α) := if j < xs.length then some (xs.set j x) else none
def pushH (xs : List α) (j : Nat) (x : α) : Option (List α) := if j < xs.length ∧ xs.length < 16000000 then some (xs ++ [x]) else none
theorem p_ixl {k : Nat} {us : List T} {t : T} (h : po env = some (P, e)) (h2 : fk e = some (.p (.int a), e1)) (h3 : atP e1 i P = some (.lst us)) (hk : ixN us.length a = some k) (h4 : us[k]? = some t) : pIx i po fk env = some (P ++ [.ix k], e1) := by
  unfold pIx
  rw [h]
  show (fk e).bind _ = _
  rw [h2]
  show (atP e1 i P).bind _ = _
  rw [h3]
  show (ixN us.length a).bind _ = _
  rw [hk]
  show (us[k]?).map _ = _
  rw [h4]; rfl
theorem p_ixE {k : Nat} {xs : List α} {u : α} (h : po env = some ([], e)) (h2 : fk e = some (.p (.int a), e1)) (h3 : e1[i]? = some (some (oE E xs))) (hk : ixN xs.length a = some k) (h4 : xs[k]? = some u) : pIx i po fk env = some ([.ix k], e1) :=
  p_ixl (P := []) h h2 (by unfold atP; rw [h3]; rfl) (by rw [List.length_map]; exact hk) (by rw [List.getElem?_map, h4]; rfl)
end
end DL
set_option Elab.async false
set_option linter.all false
set_option maxRecDepth 100000
set_option maxHeartbeats 1000000
namespace DL
open PySem PySem.Spec PyProof.Rows L2
section
variable {α β : Type} {env e : Env} {f : EF}
def m1I (g : PySem.Str → PySem.Str → Option D) (a b : Nm) : Option Int := match g (sg a) (sg b) with
  | some (.int i) => some i
  | _ => none
def m1B (g : PySem.Str → PySem.Str → Option D) (a b : Nm) : Option Bool := match g (sg a) (sg b) with
  | some (.bl i) => some i
  | _ => none
end
end DL
set_option Elab.async false
set_option linter.all false
set_option maxRecDepth 100000
set_option maxHeartbeats 1000000
namespace DL
open PySem PySem.Spec PyProof.Rows L2
section
variable {α β σ : Type} {env e : Env} {it : IF} {G : GF} {test : CF}
def mapSt (f : α → σ → Option (β × σ)) : List α → σ → Option (List β × σ)
  | [], s => some ([], s)
  | x :: xs, s => (f x s).bind fun r => (mapSt f xs r.2).map fun q => (r.1 :: q.1, q.2)
def compS (f : α → σ → Option (β × σ)) (xs : List α) (s : σ) : Option (List β × σ) := if xs.length ≤ 1000000 then mapSt f xs s else none
theorem compS_go {own : List Nat} {elt : EF} {dd : α → D} {E : β → T} {fn : α → σ → Option (β × σ)} (I : σ → Env)
    (hb : ∀ x s y s', fn x s = some (y, s') → ∃ e1, G (.p (dd x)) (I s) = some e1 ∧ ∃ e2, test e1 = some (true, e2) ∧ ∃ e3, elt e2 = some (E y, e3) ∧ wipeE e3 own = I s') :
    ∀ (xs : List α) (s : σ) (ys : List β) (s2 : σ), mapSt fn xs s = some (ys, s2) → compD own G test elt (xs.map dd) (I s) = some (ys.map E, I s2)
  | [], s, ys, s2, h => by cases h; rfl
  | x :: xs, s, ys, s2, h => by
    obtain ⟨⟨y, s1⟩, k1, k2⟩ := obind h
    obtain ⟨⟨zs, s3⟩, k3, k4⟩ := omap k2
    cases k4
    obtain ⟨e1, h1, e2, h2, e3, h5, h6⟩ := hb x s y s1 k1
    rw [List.map_cons, comp_c, h1, bindS, kCp1_q, h2, bindS, kCp2_t, h5, bindS, kCp3_q, h6, compS_go I hb xs s1 zs s3 k3, mapS, kCp4_q]; rfl
theorem e_compS {own : List Nat} {elt : EF} {dd : α → D} {E : β → T} {fn : α → σ → Option (β × σ)} {xs : List α} {s : σ} {z : List β × σ} (I : σ → Env) (hi : it env = some (xs.map dd, e)) (hw : wipeE e own = I s) (h : compS fn xs s = some z)
    (hb : ∀ x s y s', fn x s = some (y, s') → ∃ e1, G (.p (dd x)) (I s) = some e1 ∧ ∃ e2, test e1 = some (true, e2) ∧ ∃ e3, elt e2 = some (E y, e3) ∧ wipeE e3 own = I s') :
    eComp own it G test elt env = some (oE E z.1, I z.2) := by
  unfold compS at h
  split at h
  · rename_i c
    rw [eComp_q, hi, bindS, kComp_q, if_pos (by rw [List.length_map]; exact c), hw, compS_go I hb xs s z.1 z.2 h]; rfl
  · cases h
theorem e_compSP {own : List Nat} {elt : EF} {dd : α → D} {E : β → D} {fn : α → σ → Option (β × σ)} {xs : List α} {s : σ} {z : List β × σ} (I : σ → Env) (hi : it env = some (xs.map dd, e)) (hw : wipeE e own = I s) (h : compS fn xs s = some z)
    (hb : ∀ x s y s', fn x s = some (y, s') → ∃ e1, G (.p (dd x)) (I s) = some e1 ∧ ∃ e2, test e1 = some (true, e2) ∧ ∃ e3, elt e2 = some (.p (E y), e3) ∧ wipeE e3 own = I s') :
    eComp own it G test elt env = some (oL E z.1, I z.2) := by
  rw [← oE_p]
  exact e_compS (E := pE E) I hi hw h hb
end
section
variable {α : Type} {E : α → T} {env e e1 e2 e' : Env} {i : Nat} {f fk : EF} {po : PF}
theorem at_ixE {m : Nat} {xs : List α} {x : α} {P : List Stp} (h : env[i]? = some (some (oE E xs))) (hx : xs[m]? = some x) : atP env i (.ix m :: P) = getP P (E x) := by
  unfold atP
  rw [h]
  show ((xs.map E)[m]?).bind (getP P) = _
  rw [List.getElem?_map, hx]; rfl
theorem p_itE {m c : Nat} {z : Int} {xs : List α} {x : α} {us : List T} {t : T} (h : po env = some ([.ix m], e)) (h2 : fk e = some (.p (.int z), e1)) (h3 : e1[i]? = some (some (oE E xs))) (hx : xs[m]? = some x) (hE : E x = .tup us) (hk : ixN us.length z = some c) (h4 : us[c]? = some t) : pIx i po fk env = some ([.ix m, .it c], e1) :=
  p_it h h2 (by rw [at_ixE h3 hx, hE]; rfl) hk h4
theorem w_augE {m c : Nat} {k v : Int} {xs zs : List α} {x x' : α} {us : List T} {l l2 : List Int} (hp : po env = some ([.ix m, .it c], e)) (hk : fk e = some (.p (.int k), e1)) (h1 : e1[i]? = some (some (oE E xs))) (hx : xs[m]? = some x) (hE : E x = .tup us) (hc : us[c]? = some (oL D.int l))
    (hf : f e1 = some (.p (.int v), e2)) (h2 : e2[i]? = some (some (oE E xs))) (ha : addI l k v = some l2) (hE' : E x' = .tup (us.set c (oL D.int l2))) (hs : setN xs m x' = some zs) (he : e2.set i (some (oE E zs)) = e') : sAugP (fun i j => i + j) i po fk f env = some (.nx, e') := by
  subst he
  unfold addI at ha
  split at ha
  · rename_i k0
    obtain ⟨y, a1, a2⟩ := obind ha
    obtain ⟨j, a3, a4⟩ := omap a2
    subst a4
    have g1 : ∀ {e3 : Env}, e3[i]? = some (some (oE E xs)) → atP e3 i [.ix m, .it c] = some (oL D.int l) := fun h => by
      rw [at_ixE h hx, hE]
      show (us[c]?).bind (getP []) = _
      rw [hc]; rfl
    unfold setN at hs
    split at hs
    · rename_i hm
      cases hs
      unfold sAugP
      rw [hp]
      show (fk e).bind _ = _
      rw [hk]
      show (if 0 ≤ k then _ else _) = _
      rw [if_pos k0, g1 h1]
      show (atI ((l.map D.int).map T.p) k).bind _ = _
      rw [atI_map, atI_map, a1]
      show (f e1).bind _ = _
      rw [hf]
      show (atP e2 i [.ix m, .it c]).bind _ = _
      rw [g1 h2]
      show (ixN ((l.map D.int).map T.p).length k).map _ = _
      rw [List.length_map, List.length_map, a3]
      show some (Fl.nx, putP e2 i [.ix m, .it c] (.lst (((l.map D.int).map T.p).set j (.p (.int (y + v)))))) = _
      rw [putP_eq h2]
      have e5 : ((l.map D.int).map T.p).set j (.p (.int (y + v))) = ((l.set j (y + v)).map D.int).map T.p := by rw [List.map_set, List.map_set]
      rw [e5]
      have e6 : setP [.ix m, .it c] (oE E xs) (oL D.int (l.set j (y + v))) = oE E (xs.set m x') := by
        show (match (xs.map E)[m]? with | some c' => reb (oE E xs) (setS (.ix m) (oE E xs) (setP [.it c] c' (oL D.int (l.set j (y + v))))) | none => oE E xs) = _
        rw [List.getElem?_map, hx]
        show T.lst ((xs.map E).set m (setP [.it c] (E x) (oL D.int (l.set j (y + v))))) = _
        rw [hE]
        show T.lst ((xs.map E).set m (match us[c]? with | some c' => reb (.tup us) (setS (.it c) (.tup us) (setP [] c' (oL D.int (l.set j (y + v))))) | none => .tup us)) = _
        rw [hc]
        show T.lst ((xs.map E).set m (.tup (us.set c (oL D.int (l.set j (y + v)))))) = _
        rw [← hE', ← List.map_set]
      rw [show (T.lst (((l.set j (y + v)).map D.int).map T.p)) = oL D.int (l.set j (y + v)) from rfl, e6]
    · cases hs
  · cases ha
end
section
variable {α : Type} {E : α → T} {env w e' : Env} {i j : Nat} {B R : SF} {g : α → Option α} {Q : Fl → Env → Prop}
theorem loopP_map (hr : ∀ x, isRT (E x) = true) (hl : j < w.length) (hb : ∀ x y, g x = some y → Wp (B (w.set j (some (E x)))) fun fl e2 => fl = .nx ∧ e2[j]? = some (some (E y)) ∧ e2.set j none = w) :
    ∀ (xs ys : List α) (done : List T), mapO g xs = some ys → loopP j B done (xs.map E) w = some (.nx, done ++ ys.map E, w)
  | [], ys, done, h => by
    cases h
    show some (Fl.nx, done, w) = _
    rw [List.map_nil, List.append_nil]
  | x :: xs, ys, done, h => by
    obtain ⟨y, k1, k2⟩ := obind h
    obtain ⟨zs, k3, rfl⟩ := omap k2
    obtain ⟨fl, e2, q1, rfl, q2, q3⟩ := hb x y k1
    have ih := loopP_map hr hl hb xs zs (done ++ [E y]) k3
    show (if j < w.length ∧ isRT (E x) = true then _ else _) = _
    rw [if_pos ⟨hl, hr x⟩, q1]
    show (match e2[j]? with | some (some t') => loopP j B (done ++ [t']) (xs.map E) (e2.set j none) | _ => none) = _
    rw [q2]
    show loopP j B (done ++ [E y]) (xs.map E) (e2.set j none) = _
    rw [q3, ih, List.append_assoc]; rfl
theorem w_forP {xs ys : List α} {envB : α → Env} (h0 : env[i]? = some (some (oE E xs))) (hw : env.set i none = w) (hl : j < w.length) (hr : ∀ x, isRT (E x) = true) (hB : ∀ x, w.set j (some (E x)) = envB x) (hm : mapO g xs = some ys) (he : w.set i (some (oE E ys)) = e')
    (hb : ∀ x y, g x = some y → Wp (B (envB x)) fun fl e2 => fl = .nx ∧ e2[j]? = some (some (E y)) ∧ e2.set j none = w) (k : Wp (R e') Q) : Wp (sSeq (sForP i j B) R env) Q := by
  refine w_seq (e1 := e') ?_ k
  subst he
  have ha : atL env i = some (xs.map E) := by unfold atL; rw [h0]
  unfold sForP
  rw [ha]
  show (loopP j B [] (xs.map E) (env.set i none)).map _ = _
  rw [hw, loopP_map hr hl (fun x y h => by rw [hB]; exact hb x y h) xs ys [] hm]
  rfl
theorem w_fzI {xs : List α} {e : α → D} (h0 : env[i]? = some (some (oE E xs))) (hd : ∀ x, (E x).toD = e x) (he : env.set i (some (oL e xs)) = e') (k : Wp (B e') Q) : Wp (sFzI i B env) Q := by
  subst he
  have h : sFzI i B env = B (env.set i (some (oL e xs))) := by
    unfold sFzI
    rw [h0]
    show B (env.set i (some (.lst ((xs.map E).map fun u => T.p u.toD)))) = _
    rw [List.map_map, show ((fun u : T => T.p u.toD) ∘ E) = T.p ∘ e from by funext x; show T.p (E x).toD = T.p (e x); rw [hd], ← List.map_map]
  unfold Wp at *
  rw [h]; exact k
end
end DL
set_option Elab.async false
set_option linter.all false
set_option maxRecDepth 100000
set_option maxHeartbeats 2000000
namespace K53
open PySem PySem.Spec PyProof.Rows L2 DL
abbrev TSII : Type := Nm × Int × Int
abbrev eTSII : TSII → D := eT3 eS D.int D.int
abbrev TSI : Type := Nm × Int
abbrev eTSI : TSI → D := eT2 eS D.int
abbrev R1 : Type := Nm × (List Nm)
abbrev eR1 : R1 → D := eT2 eS (eSq eS)
abbrev TSS : Type := Nm × Nm
abbrev eTSS : TSS → D := eT2 eS eS
abbrev TSSI : Type := Nm × Nm × Int
abbrev eTSSI : TSSI → D := eT3 eS eS D.int
abbrev R2 : Type := Nm × (List TSI) × (List D)
abbrev eR2 : R2 → D := eT3 eS (eLs eTSI) (eLs eD)
abbrev TSIS : Type := Nm × Int × Nm
abbrev eTSIS : TSIS → D := eT3 eS D.int eS
abbrev R3 : Type := Nm × (List TSII) × (List TSI) × (List Nm) × (List R2) × (List TSIS) × (List TSS)
abbrev eR3 : R3 → D := eT7 eS (eLs eTSII) (eLs eTSI) (eLs eS) (eLs eR2) (eLs eTSIS) (eLs eTSS)
abbrev R4 : Type := (List Int) × (List Int)
abbrev eR4 : R4 → D := eT2 (eLs D.int) (eLs D.int)
abbrev TISI : Type := Int × Nm × Int
abbrev eTISI : TISI → D := eT3 D.int eS D.int
abbrev R5 : Type := Int × R3
abbrev eR5 : R5 → D := eT2 D.int eR3
def n_law_draw (p_law_script : List Int) (p_law_k : Int) : Option Int :=
  ((if (decide ((0 : Int) < (p_law_script.length : Int))) = true then
  ((modN p_law_k (p_law_script.length : Int)).bind fun x1 =>
  (atI p_law_script x1).bind fun x2 =>
  some x2)
  else (some (0 : Int))) : Option Int).bind fun s3 =>
  (mulN ((7919000003 : Int) * p_law_k) p_law_k).bind fun x4 =>
  (mulN ((s3 + p_law_k) + (1 : Int)) ((91343852333181432387730302044767688731 : Int) + x4)).bind fun x5 =>
  some (x5 % (170141183460469231731687303715884105727 : Int))
theorem l_law_draw {p_law_script : List Int} {p_law_k : Int} {r : Int} (h : n_law_draw p_law_script p_law_k = some r) : phi_law_draw [(eLs D.int p_law_script), (D.int p_law_k)] = some (.p (D.int r)) := by
  unfold n_law_draw at h
  refine runF_wp rfl ?_
  show Wp (F_law_draw [some (.p (eLs D.int p_law_script)), some (.p (D.int p_law_k)), none, none]) _
  unfold F_law_draw
  refine w_seq (e1 := [some (.p (eLs D.int p_law_script)), some (.p (D.int p_law_k)), some (.p (D.int (0 : Int))), none]) (w_set2 e_c rfl rfl) ?_
  refine bnd h fun s3 hs3 h => ?_
  refine w_join (P := (fun e => e = [some (.p (eLs D.int p_law_script)), some (.p (D.int p_law_k)), some (.p (D.int s3)), none])) ?_ (fun e he => ?_)
  · have h := hs3
    refine w_one ?_
    refine w_if (c_t (e_cmp (e_b1 (e_b rfl) (g_lenL _ _)) e_c (u_p _) (u_p _) rfl)) h (fun hb h => ?_) (fun hb h => ?_)
    · refine w_un ?_
      refine w_one ?_
      refine bnd h fun x1 hx1 h => ?_
      refine bnd h fun x2 hx2 h => ?_
      refine w_seq (e1 := [some (.p (eLs D.int p_law_script)), some (.p (D.int p_law_k)), some (.p (D.int x2)), none]) (w_set2 (e_w (e_ix (e_b rfl) (e_op (e_v rfl) (e_b1 (e_b rfl) (g_lenL _ _)) (g_mod hx1)) (x_l hx2))) rfl rfl) ?_
      have h := Option.some.inj h
      subst h
      exact w_nx ⟨rfl, rfl⟩
    · refine w_un ?_
      have h := Option.some.inj h
      subst h
      exact w_nx ⟨rfl, rfl⟩
  · subst he
    refine bnd h fun x4 hx4 h => ?_
    refine w_seq (e1 := [some (.p (eLs D.int p_law_script)), some (.p (D.int p_law_k)), some (.p (D.int s3)), some (.p (D.int ((91343852333181432387730302044767688731 : Int) + x4)))]) (w_set2 (e_op e_c (e_op (e_op e_c (e_v rfl) (g_mulL rfl)) (e_v rfl) (g_mul hx4)) rfl) rfl rfl) ?_
    refine w_one ?_
    refine bnd h fun x5 hx5 h => ?_
    have h := Option.some.inj h
    subst h
    exact w_sret (e_op (e_op (e_op (e_op (e_v rfl) (e_v rfl) rfl) e_c rfl) (e_v rfl) (g_mul hx5)) e_c (g_modR rfl)) (Or.inl rfl)
def n_law_next (p_law_script : List Int) (p_law_at : List Int) : Option (Int × (List Int)) :=
  (atI p_law_at (0 : Int)).bind fun x1 =>
  (putI p_law_at (0 : Int) (x1 + (1 : Int))).bind fun x2 =>
  (atI x2 (0 : Int)).bind fun x3 =>
  (n_law_draw p_law_script x3).bind fun x4 =>
  some (x4, x2)
theorem l_law_next {p_law_script : List Int} {p_law_at : List Int} {r : Int × (List Int)} (h : n_law_next p_law_script p_law_at = some r) : phi_law_next [.p (eLs D.int p_law_script), (oL D.int p_law_at)] = some ((.p (D.int r.1)), [.p (eLs D.int p_law_script), (oL D.int r.2)]) := by
  unfold n_law_next at h
  refine runL_wp rfl ?_
  show Wp (F_law_next [some (.p (eLs D.int p_law_script)), some (oL D.int p_law_at)]) _
  unfold F_law_next
  refine bnd h fun x1 hx1 h => ?_
  refine bnd h fun x2 hx2 h => ?_
  refine w_seq (e1 := [some (.p (eLs D.int p_law_script)), some (oL D.int x2)]) (w_putL2 (dd := D.int) (e_op (e_w (e_ix (e_b rfl) e_c (x_o hx1))) e_c rfl) rfl e_c rfl hx2 rfl) ?_
  refine w_one ?_
  refine bnd h fun x3 hx3 h => ?_
  refine bnd h fun x4 hx4 h => ?_
  have h := Option.some.inj h
  subst h
  exact w_sret (e_call (a_c (e_v rfl) (a_c (e_w (e_ix (e_b rfl) e_c (x_o hx3))) a_n)) rfl (l_law_draw hx4)) ⟨Or.inl rfl, rfl⟩
def n_law_keywords  : Option (List Nm) :=
  (splitN (cod "pool claim pot eat order part pay share repay fill lend back rest look guard debt on late early quit") (cod " ")).bind fun x1 =>
  some x1
theorem l_law_keywords  {r : List Nm} (h : n_law_keywords  = some r) : phi_law_keywords [] = some (oL eS r) := by
  unfold n_law_keywords at h
  refine runF_wp rfl ?_
  show Wp (F_law_keywords [none]) _
  unfold F_law_keywords
  refine w_seq (e1 := [some (.p (eS (cod "pool claim pot eat order part pay share repay fill lend back rest look guard debt on late early quit")))]) (w_set2 (e_s "pool claim pot eat order part pay share repay fill lend back rest look guard debt on late early quit") rfl rfl) ?_
  refine w_one ?_
  refine bnd h fun x1 hx1 h => ?_
  have h := Option.some.inj h
  subst h
  exact w_sret (e_split (e_v rfl) (e_s " ") hx1) (Or.inl rfl)
def n_law_name (p_law_seed : Int) (p_law_k : Int) : Option Nm :=
  (modN (p_law_seed / (6 : Int)) (((2 : Int) + (p_law_seed % (6 : Int))) - (1 : Int))).bind fun x1 =>
  (rng1  ((2 : Int) + (p_law_seed % (6 : Int)))).bind fun x2 =>
  (compO (fun (x3 : Int) => (mulN x3 x3).bind fun x4 =>
  (mulN x4 ((p_law_seed / (1100 : Int)) % (5 : Int))).bind fun x5 =>
  (ixS (cod "abcdefghijklmnopqrstuvwxyz") (((p_law_seed / (42 : Int)) + x5) % (26 : Int))).bind fun x6 =>
  some x6) x2).bind fun c7 =>
  (joinN (cod "") c7).bind fun x8 =>
  (ixS (cod "abcdefghijklmnopqrstuvwxyz") (((p_law_seed / (7 : Int)) + (p_law_k / (26 : Int))) % (26 : Int))).bind fun x9 =>
  (ixS (cod "abcdefghijklmnopqrstuvwxyz") (((p_law_seed / (3 : Int)) + p_law_k) % (26 : Int))).bind fun x10 =>
  (catS x9 x10).bind fun x11 =>
  (cutN x8 none (some x1)).bind fun x12 =>
  (catS x12 x11).bind fun x13 =>
  (cutN x8 (some (x1 + (2 : Int))) none).bind fun x14 =>
  (catS x13 x14).bind fun x15 =>
  (n_law_keywords).bind fun x16 =>
  ((if (decide (x15 ∈ x16)) = true then
  ((catS x15 (cod "z")).bind fun x17 =>
  some x17)
  else (some x15)) : Option Nm).bind fun s18 =>
  some s18
theorem l_law_name {p_law_seed : Int} {p_law_k : Int} {r : Nm} (h : n_law_name p_law_seed p_law_k = some r) : phi_law_name [(D.int p_law_seed), (D.int p_law_k)] = some (.p (eS r)) := by
  unfold n_law_name at h
  refine runF_wp rfl ?_
  show Wp (F_law_name [some (.p (D.int p_law_seed)), some (.p (D.int p_law_k)), none, none, none, none, none, none]) _
  unfold F_law_name
  refine w_seq (e1 := [some (.p (D.int p_law_seed)), some (.p (D.int p_law_k)), some (.p (eS (cod "abcdefghijklmnopqrstuvwxyz"))), none, none, none, none, none]) (w_set2 (e_s "abcdefghijklmnopqrstuvwxyz") rfl rfl) ?_
  refine w_seq (e1 := [some (.p (D.int p_law_seed)), some (.p (D.int p_law_k)), some (.p (eS (cod "abcdefghijklmnopqrstuvwxyz"))), some (.p (D.int ((2 : Int) + (p_law_seed % (6 : Int))))), none, none, none, none]) (w_set2 (e_op e_c (e_op (e_v rfl) e_c (g_modR rfl)) rfl) rfl rfl) ?_
  refine bnd h fun x1 hx1 h => ?_
  refine w_seq (e1 := [some (.p (D.int p_law_seed)), some (.p (D.int p_law_k)), some (.p (eS (cod "abcdefghijklmnopqrstuvwxyz"))), some (.p (D.int ((2 : Int) + (p_law_seed % (6 : Int))))), some (.p (D.int x1)), none, none, none]) (w_set2 (e_op (e_op (e_v rfl) e_c (g_divR rfl)) (e_op (e_v rfl) e_c rfl) (g_mod hx1)) rfl rfl) ?_
  refine bnd h fun x2 hx2 h => ?_
  refine bnd h fun c7 hc7 h => ?_
  refine bnd h fun x8 hx8 h => ?_
  refine w_seq (e1 := [some (.p (D.int p_law_seed)), some (.p (D.int p_law_k)), some (.p (eS (cod "abcdefghijklmnopqrstuvwxyz"))), some (.p (D.int ((2 : Int) + (p_law_seed % (6 : Int))))), some (.p (D.int x1)), some (.p (eS x8)), none, none]) (w_set2 (e_join (e_s "") (e_compP (w := [some (.p (D.int p_law_seed)), some (.p (D.int p_law_k)), some (.p (eS (cod "abcdefghijklmnopqrstuvwxyz"))), some (.p (D.int ((2 : Int) + (p_law_seed % (6 : Int))))), some (.p (D.int x1)), none, none, none]) (dd := D.int) (E := eS) (i_r1 (a_c (e_v rfl) a_n) hx2) rfl ((compO_F _ _).symm.trans hc7) (fun x3 => ⟨_, rfl, _, rfl, (fun hp => nomatch hp), fun y hp h => by
    refine bnd h fun x4 hx4 h => ?_
    refine bnd h fun x5 hx5 h => ?_
    refine bnd h fun x6 hx6 h => ?_
    have h := Option.some.inj h; subst h
    exact ⟨_, (e_w (e_ix (e_b rfl) (e_op (e_op (e_op (e_v rfl) e_c (g_divR rfl)) (e_op (e_op (e_v rfl) (e_v rfl) (g_mul hx4)) (e_op (e_op (e_v rfl) e_c (g_divR rfl)) e_c (g_modR rfl)) (g_mul hx5)) rfl) e_c (g_modR rfl)) (x_s hx6))), rfl⟩⟩)) (it_o _ _) hx8) rfl rfl) ?_
  refine bnd h fun x9 hx9 h => ?_
  refine bnd h fun x10 hx10 h => ?_
  refine bnd h fun x11 hx11 h => ?_
  refine w_seq (e1 := [some (.p (D.int p_law_seed)), some (.p (D.int p_law_k)), some (.p (eS (cod "abcdefghijklmnopqrstuvwxyz"))), some (.p (D.int ((2 : Int) + (p_law_seed % (6 : Int))))), some (.p (D.int x1)), some (.p (eS x8)), none, some (.p (eS x11))]) (w_set2 (e_op (e_w (e_ix (e_b rfl) (e_op (e_op (e_op (e_v rfl) e_c (g_divR rfl)) (e_op (e_v rfl) e_c (g_divR rfl)) rfl) e_c (g_modR rfl)) (x_s hx9))) (e_w (e_ix (e_b rfl) (e_op (e_op (e_op (e_v rfl) e_c (g_divR rfl)) (e_v rfl) rfl) e_c (g_modR rfl)) (x_s hx10))) (g_cat hx11)) rfl rfl) ?_
  refine bnd h fun x12 hx12 h => ?_
  refine bnd h fun x13 hx13 h => ?_
  refine bnd h fun x14 hx14 h => ?_
  refine bnd h fun x15 hx15 h => ?_
  refine w_seq (e1 := [some (.p (D.int p_law_seed)), some (.p (D.int p_law_k)), some (.p (eS (cod "abcdefghijklmnopqrstuvwxyz"))), some (.p (D.int ((2 : Int) + (p_law_seed % (6 : Int))))), some (.p (D.int x1)), some (.p (eS x15)), none, some (.p (eS x11))]) (w_set2 (e_op (e_op (e_sl (e_b rfl) o_n (o_s (e_v rfl)) (s_s hx12)) (e_v rfl) (g_cat hx13)) (e_sl (e_b rfl) (o_s (e_op (e_v rfl) e_c rfl)) o_n (s_s hx14)) (g_cat hx15)) rfl rfl) ?_
  refine bnd h fun x16 hx16 h => ?_
  refine bnd h fun s18 hs18 h => ?_
  refine w_join (P := (fun e => e = [some (.p (D.int p_law_seed)), some (.p (D.int p_law_k)), some (.p (eS (cod "abcdefghijklmnopqrstuvwxyz"))), some (.p (D.int ((2 : Int) + (p_law_seed % (6 : Int))))), some (.p (D.int x1)), some (.p (eS s18)), none, some (.p (eS x11))])) ?_ (fun e he => ?_)
  · have h := hs18
    refine w_one ?_
    refine w_if (c_t (e_cmp (x := (eS x15)) (y := (eLs eS x16)) (e_b rfl) (e_call a_n rfl (l_law_keywords hx16)) (u_p _) (oL_toD (e := eS) x16) (g_inL _ _))) h (fun hb h => ?_) (fun hb h => ?_)
    · refine w_un ?_
      refine w_one ?_
      refine bnd h fun x17 hx17 h => ?_
      refine w_seq (e1 := [some (.p (D.int p_law_seed)), some (.p (D.int p_law_k)), some (.p (eS (cod "abcdefghijklmnopqrstuvwxyz"))), some (.p (D.int ((2 : Int) + (p_law_seed % (6 : Int))))), some (.p (D.int x1)), some (.p (eS x17)), none, some (.p (eS x11))]) (w_set2 (e_op (e_v rfl) (e_s "z") (g_cat hx17)) rfl rfl) ?_
      have h := Option.some.inj h
      subst h
      exact w_nx ⟨rfl, rfl⟩
    · refine w_un ?_
      have h := Option.some.inj h
      subst h
      exact w_nx ⟨rfl, rfl⟩
  · subst he
    refine w_one ?_
    have h := Option.some.inj h
    subst h
    exact w_sret (e_m rfl) (Or.inl rfl)
def n_law_coins (p_law_n : Int) : Option Int :=
  (if (decide ((p_law_n % (4 : Int)) = (0 : Int))) = true then
  ((atI [(1 : Int), (1000000000000 : Int)] ((p_law_n / (4 : Int)) % (2 : Int))).bind fun x1 =>
  some x1)
  else ((if (decide ((p_law_n % (4 : Int)) = (1 : Int))) = true then
  (some ((1 : Int) + ((p_law_n / (4 : Int)) % (20 : Int))))
  else (some ((1 : Int) + ((p_law_n / (4 : Int)) % (1000000000000 : Int)))))))
theorem l_law_coins {p_law_n : Int} {r : Int} (h : n_law_coins p_law_n = some r) : phi_law_coins [(D.int p_law_n)] = some (.p (D.int r)) := by
  unfold n_law_coins at h
  refine runF_wp rfl ?_
  show Wp (F_law_coins [some (.p (D.int p_law_n))]) _
  unfold F_law_coins
  refine w_if (c_t (e_cmp (e_op (e_v rfl) e_c (g_modR rfl)) e_c (u_p _) (u_p _) eqQ_i)) h (fun hb h => ?_) (fun hb h => ?_)
  · refine bnd h fun x1 hx1 h => ?_
    have h := Option.some.inj h
    subst h
    exact w_sret (e_w (e_ix (e_l (a_c e_c (a_c (e_op e_c e_c ((g_powR rfl).trans (congrArg (fun z => some (D.int z)) (by decide)))) a_n)) rfl (show _ = ((oL D.int [(1 : Int), (1000000000000 : Int)]) : T) from rfl)) (e_op (e_op (e_v rfl) e_c (g_divR rfl)) e_c (g_modR rfl)) (x_o hx1))) (Or.inl rfl)
  · refine w_snx ?_
    refine w_if (c_t (e_cmp (e_op (e_v rfl) e_c (g_modR rfl)) e_c (u_p _) (u_p _) eqQ_i)) h (fun hb h => ?_) (fun hb h => ?_)
    · have h := Option.some.inj h
      subst h
      exact w_sret (e_op e_c (e_op (e_op (e_v rfl) e_c (g_divR rfl)) e_c (g_modR rfl)) rfl) (Or.inl rfl)
    · refine w_snx ?_
      refine w_one ?_
      have h := Option.some.inj h
      subst h
      exact w_sret (e_op e_c (e_op (e_op (e_v rfl) e_c (g_divR rfl)) (e_op e_c e_c ((g_powR rfl).trans (congrArg (fun z => some (D.int z)) (by decide)))) (g_modR rfl)) rfl) (Or.inl rfl)
def n_law_rule (p_law_n : Int) (p_law_claims : List TSII) (p_law_pots : List TSI) (p_law_others : List Nm) : Option D :=
  (modN (p_law_n / (7 : Int)) (p_law_claims.length : Int)).bind fun x1 =>
  (atI p_law_claims x1).bind fun x2 =>
  (if ((decide ((p_law_n % (7 : Int)) = (1 : Int))) && (decide ((1 : Int) < (p_law_claims.length : Int)))) = true then
  ((modN (p_law_n / (50 : Int)) ((p_law_claims.length : Int) - (1 : Int))).bind fun x3 =>
  (rng1  ((2 : Int) + x3)).bind fun x4 =>
  (compO (fun (x5 : Int) => (modN ((p_law_n / (400 : Int)) + x5) (p_law_claims.length : Int)).bind fun x6 =>
  (atI p_law_claims x6).bind fun x7 =>
  some x7.1) x4).bind fun c8 =>
  some (eR1 ((cod "share"), c8)))
  else ((if (decide ((p_law_n % (7 : Int)) = (2 : Int))) = true then
  (some (eTSS ((cod "repay"), x2.1)))
  else ((if ((decide ((p_law_n % (7 : Int)) = (3 : Int))) && (decide ((0 : Int) < (p_law_pots.length : Int)))) = true then
  ((modN (p_law_n / (50 : Int)) (p_law_pots.length : Int)).bind fun x9 =>
  (atI p_law_pots x9).bind fun x10 =>
  some (eTSS ((cod "fill"), x10.1)))
  else ((if ((decide ((p_law_n % (7 : Int)) = (4 : Int))) && (decide ((0 : Int) < (p_law_others.length : Int)))) = true then
  ((modN (p_law_n / (50 : Int)) (p_law_others.length : Int)).bind fun x11 =>
  (atI p_law_others x11).bind fun x12 =>
  (n_law_coins (p_law_n / (400 : Int))).bind fun x13 =>
  some (eTSSI ((cod "lend"), x12, x13)))
  else ((if ((decide ((p_law_n % (7 : Int)) = (5 : Int))) && (decide ((0 : Int) < (p_law_others.length : Int)))) = true then
  ((modN (p_law_n / (50 : Int)) (p_law_others.length : Int)).bind fun x14 =>
  (atI p_law_others x14).bind fun x15 =>
  some (eTSS ((cod "back"), x15)))
  else (some (eTSS ((cod "pay"), x2.1))))))))))))
theorem l_law_rule {p_law_n : Int} {p_law_claims : List TSII} {p_law_pots : List TSI} {p_law_others : List Nm} {r : D} (h : n_law_rule p_law_n p_law_claims p_law_pots p_law_others = some r) : phi_law_rule [(D.int p_law_n), (eLs eTSII p_law_claims), (eLs eTSI p_law_pots), (eLs eS p_law_others)] = some (.p r) := by
  unfold n_law_rule at h
  refine runF_wp rfl ?_
  show Wp (F_law_rule [some (.p (D.int p_law_n)), some (.p (eLs eTSII p_law_claims)), some (.p (eLs eTSI p_law_pots)), some (.p (eLs eS p_law_others)), none, none, none, none, none]) _
  unfold F_law_rule
  refine w_seq (e1 := [some (.p (D.int p_law_n)), some (.p (eLs eTSII p_law_claims)), some (.p (eLs eTSI p_law_pots)), some (.p (eLs eS p_law_others)), some (.p (D.int (p_law_n % (7 : Int)))), none, none, none, none]) (w_set2 (e_op (e_v rfl) e_c (g_modR rfl)) rfl rfl) ?_
  refine w_seq (e1 := [some (.p (D.int p_law_n)), some (.p (eLs eTSII p_law_claims)), some (.p (eLs eTSI p_law_pots)), some (.p (eLs eS p_law_others)), some (.p (D.int (p_law_n % (7 : Int)))), some (.p (D.int (p_law_claims.length : Int))), none, none, none]) (w_set2 (e_b1 (e_b rfl) (g_lenL _ _)) rfl rfl) ?_
  refine bnd h fun x1 hx1 h => ?_
  refine bnd h fun x2 hx2 h => ?_
  refine w_seq (e1 := [some (.p (D.int p_law_n)), some (.p (eLs eTSII p_law_claims)), some (.p (eLs eTSI p_law_pots)), some (.p (eLs eS p_law_others)), some (.p (D.int (p_law_n % (7 : Int)))), some (.p (D.int (p_law_claims.length : Int))), some (.p (eS x2.1)), none, none]) (w_set2 (e_w (e_ix (e_ix (e_b rfl) (e_op (e_op (e_v rfl) e_c (g_divR rfl)) (e_v rfl) (g_mod hx1)) (x_l hx2)) e_c (x_t 0 rfl))) rfl rfl) ?_
  refine w_if (c_and (c_t (e_cmp (e_b rfl) e_c (u_p _) (u_p _) eqQ_i)) (c_t (e_cmp (e_b rfl) e_c (u_p _) (u_p _) rfl))) h (fun hb h => ?_) (fun hb h => ?_)
  · refine w_assoc ?_
    refine bnd h fun x3 hx3 h => ?_
    refine w_seq (e1 := [some (.p (D.int p_law_n)), some (.p (eLs eTSII p_law_claims)), some (.p (eLs eTSI p_law_pots)), some (.p (eLs eS p_law_others)), some (.p (D.int (p_law_n % (7 : Int)))), some (.p (D.int (p_law_claims.length : Int))), some (.p (eS x2.1)), some (.p (D.int ((2 : Int) + x3))), none]) (w_set2 (e_op e_c (e_op (e_op (e_v rfl) e_c (g_divR rfl)) (e_op (e_v rfl) e_c rfl) (g_mod hx3)) rfl) rfl rfl) ?_
    refine bnd h fun x4 hx4 h => ?_
    refine bnd h fun c8 hc8 h => ?_
    have h := Option.some.inj h
    subst h
    exact w_sret (e_t (a_c (e_s "share") (a_c (e_tuple (e_compP (w := [some (.p (D.int p_law_n)), some (.p (eLs eTSII p_law_claims)), some (.p (eLs eTSI p_law_pots)), some (.p (eLs eS p_law_others)), some (.p (D.int (p_law_n % (7 : Int)))), some (.p (D.int (p_law_claims.length : Int))), some (.p (eS x2.1)), some (.p (D.int ((2 : Int) + x3))), none]) (dd := D.int) (E := eS) (i_r1 (a_c (e_v rfl) a_n) hx4) rfl ((compO_F _ _).symm.trans hc8) (fun x5 => ⟨_, rfl, _, rfl, (fun hp => nomatch hp), fun y hp h => by
    refine bnd h fun x6 hx6 h => ?_
    refine bnd h fun x7 hx7 h => ?_
    have h := Option.some.inj h; subst h
    exact ⟨_, (e_w (e_ix (e_ix (e_b rfl) (e_op (e_op (e_op (e_v rfl) e_c (g_divR rfl)) (e_v rfl) rfl) (e_v rfl) (g_mod hx6)) (x_l hx7)) e_c (x_t 0 rfl))), rfl⟩⟩)) (it_o _ _)) a_n)) rfl (show _ = ((.p (eR1 ((cod "share"), c8))) : T) from rfl)) (Or.inl rfl)
  · refine w_snx ?_
    refine w_if (c_t (e_cmp (e_b rfl) e_c (u_p _) (u_p _) eqQ_i)) h (fun hb h => ?_) (fun hb h => ?_)
    · have h := Option.some.inj h
      subst h
      exact w_sret (e_t (a_c (e_s "repay") (a_c (e_m rfl) a_n)) rfl (show _ = ((.p (eTSS ((cod "repay"), x2.1))) : T) from rfl)) (Or.inl rfl)
    · refine w_snx ?_
      refine w_if (c_and (c_t (e_cmp (e_b rfl) e_c (u_p _) (u_p _) eqQ_i)) (c_t (e_cmp (e_b1 (e_b rfl) (g_lenL _ _)) e_c (u_p _) (u_p _) rfl))) h (fun hb h => ?_) (fun hb h => ?_)
      · refine bnd h fun x9 hx9 h => ?_
        refine bnd h fun x10 hx10 h => ?_
        have h := Option.some.inj h
        subst h
        exact w_sret (e_t (a_c (e_s "fill") (a_c (e_w (e_ix (e_ix (e_b rfl) (e_op (e_op (e_v rfl) e_c (g_divR rfl)) (e_b1 (e_b rfl) (g_lenL _ _)) (g_mod hx9)) (x_l hx10)) e_c (x_t 0 rfl))) a_n)) rfl (show _ = ((.p (eTSS ((cod "fill"), x10.1))) : T) from rfl)) (Or.inl rfl)
      · refine w_snx ?_
        refine w_if (c_and (c_t (e_cmp (e_b rfl) e_c (u_p _) (u_p _) eqQ_i)) (c_t (e_cmp (e_b1 (e_b rfl) (g_lenL _ _)) e_c (u_p _) (u_p _) rfl))) h (fun hb h => ?_) (fun hb h => ?_)
        · refine bnd h fun x11 hx11 h => ?_
          refine bnd h fun x12 hx12 h => ?_
          refine bnd h fun x13 hx13 h => ?_
          have h := Option.some.inj h
          subst h
          exact w_sret (e_t (a_c (e_s "lend") (a_c (e_w (e_ix (e_b rfl) (e_op (e_op (e_v rfl) e_c (g_divR rfl)) (e_b1 (e_b rfl) (g_lenL _ _)) (g_mod hx11)) (x_l hx12))) (a_c (e_call (a_c (e_op (e_v rfl) e_c (g_divR rfl)) a_n) rfl (l_law_coins hx13)) a_n))) rfl (show _ = ((.p (eTSSI ((cod "lend"), x12, x13))) : T) from rfl)) (Or.inl rfl)
        · refine w_snx ?_
          refine w_if (c_and (c_t (e_cmp (e_b rfl) e_c (u_p _) (u_p _) eqQ_i)) (c_t (e_cmp (e_b1 (e_b rfl) (g_lenL _ _)) e_c (u_p _) (u_p _) rfl))) h (fun hb h => ?_) (fun hb h => ?_)
          · refine bnd h fun x14 hx14 h => ?_
            refine bnd h fun x15 hx15 h => ?_
            have h := Option.some.inj h
            subst h
            exact w_sret (e_t (a_c (e_s "back") (a_c (e_w (e_ix (e_b rfl) (e_op (e_op (e_v rfl) e_c (g_divR rfl)) (e_b1 (e_b rfl) (g_lenL _ _)) (g_mod hx14)) (x_l hx15))) a_n)) rfl (show _ = ((.p (eTSS ((cod "back"), x15))) : T) from rfl)) (Or.inl rfl)
          · refine w_snx ?_
            refine w_one ?_
            have h := Option.some.inj h
            subst h
            exact w_sret (e_t (a_c (e_s "pay") (a_c (e_m rfl) a_n)) rfl (show _ = ((.p (eTSS ((cod "pay"), x2.1))) : T) from rfl)) (Or.inl rfl)
def n_law_order (p_law_script : List Int) (p_law_at : List Int) (p_law_name_here : Nm) (p_law_claims : List TSII) (p_law_pots : List TSI) (p_law_others : List Nm) : Option (R2 × (List Int)) :=
  (n_law_next p_law_script p_law_at).bind fun x1 =>
  (modN x1.1 ((p_law_claims.length : Int) + (1 : Int))).bind fun x2 =>
  (mulN x2 ((x1.1 / (10 : Int)) % (2 : Int))).bind fun x3 =>
  (rng1  x3).bind fun x4 =>
  (fold (fun (x6 : Int) (s5 : (List Int) × (List TSI)) =>
  (modN ((x1.1 / (100 : Int)) + x6) (p_law_claims.length : Int)).bind fun x8 =>
  (atI p_law_claims x8).bind fun x9 =>
  (n_law_next p_law_script s5.1).bind fun x10 =>
  (push s5.2 (x9.1, ((1 : Int) + (x10.1 % (10 : Int))))).bind fun x11 =>
  some (x10.2, x11)) x4 (x1.2, ([] : List TSI))).bind fun s12 =>
  (rng1  ((x1.1 / (1000 : Int)) % (9 : Int))).bind fun x13 =>
  (compS (fun (x14 : Int) (s15 : (List Int)) => (n_law_next p_law_script s15).bind fun x16 =>
  (n_law_rule x16.1 p_law_claims p_law_pots p_law_others).bind fun x17 =>
  some (x17, x16.2)) x13 s12.1).bind fun x18 =>
  (modN (x1.1 / (10000 : Int)) (p_law_claims.length : Int)).bind fun x19 =>
  (atI p_law_claims x19).bind fun x20 =>
  (push x18.1 (eTSS ((cod "rest"), x20.1))).bind fun x21 =>
  some ((p_law_name_here, s12.2, x21), x18.2)
theorem l_law_order {p_law_script : List Int} {p_law_at : List Int} {p_law_name_here : Nm} {p_law_claims : List TSII} {p_law_pots : List TSI} {p_law_others : List Nm} {r : R2 × (List Int)} (h : n_law_order p_law_script p_law_at p_law_name_here p_law_claims p_law_pots p_law_others = some r) : phi_law_order [.p (eLs D.int p_law_script), (oL D.int p_law_at), .p (eS p_law_name_here), .p (eLs eTSII p_law_claims), .p (eLs eTSI p_law_pots), .p (eLs eS p_law_others)] = some ((.tup [(.p (eS r.1.1)), (oL eTSI r.1.2.1), (oL eD r.1.2.2)]), [.p (eLs D.int p_law_script), (oL D.int r.2), .p (eS p_law_name_here), .p (eLs eTSII p_law_claims), .p (eLs eTSI p_law_pots), .p (eLs eS p_law_others)]) := by
  unfold n_law_order at h
  refine runL_wp rfl ?_
  show Wp (F_law_order [some (.p (eLs D.int p_law_script)), some (oL D.int p_law_at), some (.p (eS p_law_name_here)), some (.p (eLs eTSII p_law_claims)), some (.p (eLs eTSI p_law_pots)), some (.p (eLs eS p_law_others)), none, none, none, none, none]) _
  unfold F_law_order
  refine bnd h fun x1 hx1 h => ?_
  refine w_seq (e1 := [some (.p (eLs D.int p_law_script)), some (oL D.int x1.2), some (.p (eS p_law_name_here)), some (.p (eLs eTSII p_law_claims)), some (.p (eLs eTSI p_law_pots)), some (.p (eLs eS p_law_others)), some (.p (D.int x1.1)), none, none, none, none]) (w_set2 (e_callL (e' := [some (.p (eLs D.int p_law_script)), some (oL D.int x1.2), some (.p (eS p_law_name_here)), some (.p (eLs eTSII p_law_claims)), some (.p (eLs eTSI p_law_pots)), some (.p (eLs eS p_law_others)), none, none, none, none, none]) (a_c (e_v rfl) (a_c (e_m rfl) a_n)) (l_law_next hx1) rfl (by kernel_rfl)) rfl rfl) ?_
  refine w_seq (e1 := [some (.p (eLs D.int p_law_script)), some (oL D.int x1.2), some (.p (eS p_law_name_here)), some (.p (eLs eTSII p_law_claims)), some (.p (eLs eTSI p_law_pots)), some (.p (eLs eS p_law_others)), some (.p (D.int x1.1)), some (.p (D.int (p_law_claims.length : Int))), none, none, none]) (w_set2 (e_b1 (e_b rfl) (g_lenL _ _)) rfl rfl) ?_
  refine w_seq (e1 := [some (.p (eLs D.int p_law_script)), some (oL D.int x1.2), some (.p (eS p_law_name_here)), some (.p (eLs eTSII p_law_claims)), some (.p (eLs eTSI p_law_pots)), some (.p (eLs eS p_law_others)), some (.p (D.int x1.1)), some (.p (D.int (p_law_claims.length : Int))), some (oL eTSI ([] : List TSI)), none, none]) (w_set2 (e_l a_n rfl rfl) rfl rfl) ?_
  refine bnd h fun x2 hx2 h => ?_
  refine bnd h fun x3 hx3 h => ?_
  refine bnd h fun x4 hx4 h => ?_
  refine bnd h fun s12 hs12 h => ?_
  refine w_for (P := (fun e => ∃ u7, e = [some (.p (eLs D.int p_law_script)), some (oL D.int s12.1), some (.p (eS p_law_name_here)), some (.p (eLs eTSII p_law_claims)), some (.p (eLs eTSI p_law_pots)), some (.p (eLs eS p_law_others)), some (.p (D.int x1.1)), some (.p (D.int (p_law_claims.length : Int))), some (oL eTSI s12.2), u7, none])) (i_r1 (a_c (e_op (e_op (e_v rfl) (e_op (e_v rfl) e_c rfl) (g_mod hx2)) (e_op (e_op (e_v rfl) e_c (g_divR rfl)) e_c (g_modR rfl)) (g_mul hx3)) a_n) hx4) (loop_fold (dd := D.int) (fun (s5 : (List Int) × (List TSI)) e => ∃ u7, e = [some (.p (eLs D.int p_law_script)), some (oL D.int s5.1), some (.p (eS p_law_name_here)), some (.p (eLs eTSII p_law_claims)), some (.p (eLs eTSI p_law_pots)), some (.p (eLs eS p_law_others)), some (.p (D.int x1.1)), some (.p (D.int (p_law_claims.length : Int))), some (oL eTSI s5.2), u7, none]) ?_ _ _ _ _ ⟨_, rfl⟩ hs12) (fun e he => ?_)
  · intro x6 s5 sN env hR h
    obtain ⟨u7, rfl⟩ := hR
    refine ⟨_, rfl, ?_⟩
    unfold B_law_order_1
    refine w_one ?_
    refine bnd h fun x8 hx8 h => ?_
    refine bnd h fun x9 hx9 h => ?_
    refine bnd h fun x10 hx10 h => ?_
    refine bnd h fun x11 hx11 h => ?_
    refine w_seq (e1 := [some (.p (eLs D.int p_law_script)), some (oL D.int x10.2), some (.p (eS p_law_name_here)), some (.p (eLs eTSII p_law_claims)), some (.p (eLs eTSI p_law_pots)), some (.p (eLs eS p_law_others)), some (.p (D.int x1.1)), some (.p (D.int (p_law_claims.length : Int))), some (oL eTSI x11), some (.p (D.int x6)), none]) (w_appP2 (dd := eTSI) rfl (e_fz (d := (eTSI (x9.1, ((1 : Int) + (x10.1 % (10 : Int)))))) (e_t (a_c (e_w (e_ix (e_ix (e_b rfl) (e_op (e_op (e_op (e_v rfl) e_c (g_divR rfl)) (e_v rfl) rfl) (e_v rfl) (g_mod hx8)) (x_l hx9)) e_c (x_t 0 rfl))) (a_c (e_op e_c (e_op (e_callL (e' := [some (.p (eLs D.int p_law_script)), some (oL D.int x10.2), some (.p (eS p_law_name_here)), some (.p (eLs eTSII p_law_claims)), some (.p (eLs eTSI p_law_pots)), some (.p (eLs eS p_law_others)), some (.p (D.int x1.1)), some (.p (D.int (p_law_claims.length : Int))), some (oL eTSI s5.2), some (.p (D.int x6)), none]) (a_c (e_v rfl) (a_c (e_m rfl) a_n)) (l_law_next hx10) rfl (by kernel_rfl)) e_c (g_modR rfl)) rfl) a_n)) rfl (show _ = ((.p (eTSI (x9.1, ((1 : Int) + (x10.1 % (10 : Int)))))) : T) from rfl)) (u_p _)) rfl hx11 rfl) ?_
    have h := Option.some.inj h
    subst h
    exact w_nx ⟨Or.inl rfl, ⟨_, rfl⟩⟩
  · obtain ⟨u7, rfl⟩ := he
    refine bnd h fun x13 hx13 h => ?_
    refine bnd h fun x18 hx18 h => ?_
    refine w_seq (e1 := [some (.p (eLs D.int p_law_script)), some (oL D.int x18.2), some (.p (eS p_law_name_here)), some (.p (eLs eTSII p_law_claims)), some (.p (eLs eTSI p_law_pots)), some (.p (eLs eS p_law_others)), some (.p (D.int x1.1)), some (.p (D.int (p_law_claims.length : Int))), some (oL eTSI s12.2), none, some (oL eD x18.1)]) (w_set2 (e_compSP (dd := D.int) (E := eD) (I := fun s15 => [some (.p (eLs D.int p_law_script)), some (oL D.int s15), some (.p (eS p_law_name_here)), some (.p (eLs eTSII p_law_claims)), some (.p (eLs eTSI p_law_pots)), some (.p (eLs eS p_law_others)), some (.p (D.int x1.1)), some (.p (D.int (p_law_claims.length : Int))), some (oL eTSI s12.2), none, none]) (i_r1 (a_c (e_op (e_op (e_v rfl) e_c (g_divR rfl)) e_c (g_modR rfl)) a_n) hx13) rfl hx18 (fun x14 s15 y s' h => by
    refine bnd h fun x16 hx16 h => ?_
    refine bnd h fun x17 hx17 h => ?_
    obtain ⟨rfl, rfl⟩ := Prod.mk.inj (Option.some.inj h)
    exact ⟨_, rfl, _, rfl, _, (e_call (a_c (e_fz (d := (D.int x16.1)) (e_callL (e' := [some (.p (eLs D.int p_law_script)), some (oL D.int x16.2), some (.p (eS p_law_name_here)), some (.p (eLs eTSII p_law_claims)), some (.p (eLs eTSI p_law_pots)), some (.p (eLs eS p_law_others)), some (.p (D.int x1.1)), some (.p (D.int (p_law_claims.length : Int))), some (oL eTSI s12.2), some (.p (D.int x14)), none]) (a_c (e_v rfl) (a_c (e_m rfl) a_n)) (l_law_next hx16) rfl (by kernel_rfl)) (u_p _)) (a_c (e_v rfl) (a_c (e_v rfl) (a_c (e_v rfl) a_n)))) rfl (l_law_rule hx17)), rfl⟩)) rfl rfl) ?_
    refine bnd h fun x19 hx19 h => ?_
    refine bnd h fun x20 hx20 h => ?_
    refine bnd h fun x21 hx21 h => ?_
    refine w_seq (e1 := [some (.p (eLs D.int p_law_script)), some (oL D.int x18.2), some (.p (eS p_law_name_here)), some (.p (eLs eTSII p_law_claims)), some (.p (eLs eTSI p_law_pots)), some (.p (eLs eS p_law_others)), some (.p (D.int x1.1)), some (.p (D.int (p_law_claims.length : Int))), some (oL eTSI s12.2), none, some (oL eD x21)]) (w_appL2 (dd := eD) rfl (e_fz (d := (eTSS ((cod "rest"), x20.1))) (e_t (a_c (e_s "rest") (a_c (e_w (e_ix (e_ix (e_b rfl) (e_op (e_op (e_v rfl) e_c (g_divR rfl)) (e_v rfl) (g_mod hx19)) (x_l hx20)) e_c (x_t 0 rfl))) a_n)) rfl (show _ = ((.p (eTSS ((cod "rest"), x20.1))) : T) from rfl)) (u_p _)) rfl hx21 rfl) ?_
    refine w_one ?_
    have h := Option.some.inj h
    subst h
    exact w_sret (e_t (a_c (e_m rfl) (a_c (e_m rfl) (a_c (e_m rfl) a_n))) rfl (show _ = ((.tup [(.p (eS ((p_law_name_here, s12.2, x21).1))), (oL eTSI ((p_law_name_here, s12.2, x21).2.1)), (oL eD ((p_law_name_here, s12.2, x21).2.2))]) : T) from rfl)) ⟨Or.inl rfl, rfl⟩
def n_law_orders (p_law_script : List Int) (p_law_at : List Int) (p_law_seed : Int) (p_law_claims : List TSII) (p_law_pots : List TSI) (p_law_others : List Nm) (p_law_most : Int) : Option ((List R2) × (List Int)) :=
  (n_law_next p_law_script p_law_at).bind fun x1 =>
  (modN x1.1 p_law_most).bind fun x2 =>
  (rng1  ((1 : Int) + x2)).bind fun x3 =>
  (fold (fun (x5 : Int) (s4 : (List Int) × (List R2)) =>
  (modN x5 (p_law_claims.length : Int)).bind fun x9 =>
  (atI p_law_claims x9).bind fun x10 =>
  (n_law_next p_law_script s4.1).bind fun x11 =>
  ((if (decide ((0 : Int) < (x11.1 % (3 : Int)))) = true then
  ((n_law_name p_law_seed ((100 : Int) + x5)).bind fun x12 =>
  some x12)
  else ((compT (fun (x13 : R2) => x13.1) s4.2).bind fun c14 =>
  (if (decide (x10.1 ∈ c14)) = true then
  ((n_law_name p_law_seed ((100 : Int) + x5)).bind fun x15 =>
  some x15)
  else (some x10.1)))) : Option Nm).bind fun s16 =>
  (n_law_order p_law_script x11.2 s16 p_law_claims p_law_pots p_law_others).bind fun x18 =>
  (push s4.2 x18.1).bind fun x19 =>
  some (x18.2, x19)) x3 (x1.2, ([] : List R2))).bind fun s20 =>
  some (s20.2, s20.1)
theorem l_law_orders {p_law_script : List Int} {p_law_at : List Int} {p_law_seed : Int} {p_law_claims : List TSII} {p_law_pots : List TSI} {p_law_others : List Nm} {p_law_most : Int} {r : (List R2) × (List Int)} (h : n_law_orders p_law_script p_law_at p_law_seed p_law_claims p_law_pots p_law_others p_law_most = some r) : phi_law_orders [.p (eLs D.int p_law_script), (oL D.int p_law_at), .p (D.int p_law_seed), .p (eLs eTSII p_law_claims), .p (eLs eTSI p_law_pots), .p (eLs eS p_law_others), .p (D.int p_law_most)] = some ((oL eR2 r.1), [.p (eLs D.int p_law_script), (oL D.int r.2), .p (D.int p_law_seed), .p (eLs eTSII p_law_claims), .p (eLs eTSI p_law_pots), .p (eLs eS p_law_others), .p (D.int p_law_most)]) := by
  unfold n_law_orders at h
  refine runL_wp rfl ?_
  show Wp (F_law_orders [some (.p (eLs D.int p_law_script)), some (oL D.int p_law_at), some (.p (D.int p_law_seed)), some (.p (eLs eTSII p_law_claims)), some (.p (eLs eTSI p_law_pots)), some (.p (eLs eS p_law_others)), some (.p (D.int p_law_most)), none, none, none, none]) _
  unfold F_law_orders
  refine w_seq (e1 := [some (.p (eLs D.int p_law_script)), some (oL D.int p_law_at), some (.p (D.int p_law_seed)), some (.p (eLs eTSII p_law_claims)), some (.p (eLs eTSI p_law_pots)), some (.p (eLs eS p_law_others)), some (.p (D.int p_law_most)), some (oL eR2 ([] : List R2)), none, none, none]) (w_set2 (e_l a_n rfl rfl) rfl rfl) ?_
  refine bnd h fun x1 hx1 h => ?_
  refine bnd h fun x2 hx2 h => ?_
  refine bnd h fun x3 hx3 h => ?_
  refine bnd h fun s20 hs20 h => ?_
  refine w_for (P := (fun e => ∃ u6, ∃ u7, ∃ u8, e = [some (.p (eLs D.int p_law_script)), some (oL D.int s20.1), some (.p (D.int p_law_seed)), some (.p (eLs eTSII p_law_claims)), some (.p (eLs eTSI p_law_pots)), some (.p (eLs eS p_law_others)), some (.p (D.int p_law_most)), some (oL eR2 s20.2), u6, u7, u8])) (i_r1 (a_c (e_op e_c (e_op (e_callL (e' := [some (.p (eLs D.int p_law_script)), some (oL D.int x1.2), some (.p (D.int p_law_seed)), some (.p (eLs eTSII p_law_claims)), some (.p (eLs eTSI p_law_pots)), some (.p (eLs eS p_law_others)), some (.p (D.int p_law_most)), some (oL eR2 ([] : List R2)), none, none, none]) (a_c (e_v rfl) (a_c (e_m rfl) a_n)) (l_law_next hx1) rfl (by kernel_rfl)) (e_v rfl) (g_mod hx2)) rfl) a_n) hx3) (loop_fold (dd := D.int) (fun (s4 : (List Int) × (List R2)) e => ∃ u6, ∃ u7, ∃ u8, e = [some (.p (eLs D.int p_law_script)), some (oL D.int s4.1), some (.p (D.int p_law_seed)), some (.p (eLs eTSII p_law_claims)), some (.p (eLs eTSI p_law_pots)), some (.p (eLs eS p_law_others)), some (.p (D.int p_law_most)), some (oL eR2 s4.2), u6, u7, u8]) ?_ _ _ _ _ ⟨_, _, _, rfl⟩ hs20) (fun e he => ?_)
  · intro x5 s4 sN env hR h
    obtain ⟨u6, u7, u8, rfl⟩ := hR
    refine ⟨_, rfl, ?_⟩
    unfold B_law_orders_1
    refine bnd h fun x9 hx9 h => ?_
    refine bnd h fun x10 hx10 h => ?_
    refine w_seq (e1 := [some (.p (eLs D.int p_law_script)), some (oL D.int s4.1), some (.p (D.int p_law_seed)), some (.p (eLs eTSII p_law_claims)), some (.p (eLs eTSI p_law_pots)), some (.p (eLs eS p_law_others)), some (.p (D.int p_law_most)), some (oL eR2 s4.2), some (.p (D.int x5)), some (.p (eS x10.1)), u8]) (w_set2 (e_w (e_ix (e_ix (e_b rfl) (e_op (e_v rfl) (e_b1 (e_b rfl) (g_lenL _ _)) (g_mod hx9)) (x_l hx10)) e_c (x_t 0 rfl))) rfl rfl) ?_
    refine bnd h fun x11 hx11 h => ?_
    refine bnd h fun s16 hs16 h => ?_
    refine w_join (P := (fun e => ∃ u17, e = [some (.p (eLs D.int p_law_script)), some (oL D.int x11.2), some (.p (D.int p_law_seed)), some (.p (eLs eTSII p_law_claims)), some (.p (eLs eTSI p_law_pots)), some (.p (eLs eS p_law_others)), some (.p (D.int p_law_most)), some (oL eR2 s4.2), some (.p (D.int x5)), some (.p (eS s16)), u17])) ?_ (fun e he => ?_)
    · have h := hs16
      refine w_one ?_
      refine w_if (c_t (e_cmp (e_op (e_callL (e' := [some (.p (eLs D.int p_law_script)), some (oL D.int x11.2), some (.p (D.int p_law_seed)), some (.p (eLs eTSII p_law_claims)), some (.p (eLs eTSI p_law_pots)), some (.p (eLs eS p_law_others)), some (.p (D.int p_law_most)), some (oL eR2 s4.2), some (.p (D.int x5)), some (.p (eS x10.1)), u8]) (a_c (e_v rfl) (a_c (e_m rfl) a_n)) (l_law_next hx11) rfl (by kernel_rfl)) e_c (g_modR rfl)) e_c (u_p _) (u_p _) rfl)) h (fun hb h => ?_) (fun hb h => ?_)
      · refine w_un ?_
        refine w_one ?_
        refine bnd h fun x12 hx12 h => ?_
        refine w_seq (e1 := [some (.p (eLs D.int p_law_script)), some (oL D.int x11.2), some (.p (D.int p_law_seed)), some (.p (eLs eTSII p_law_claims)), some (.p (eLs eTSI p_law_pots)), some (.p (eLs eS p_law_others)), some (.p (D.int p_law_most)), some (oL eR2 s4.2), some (.p (D.int x5)), some (.p (eS x12)), u8]) (w_set2 (e_call (a_c (e_v rfl) (a_c (e_op e_c (e_v rfl) rfl) a_n)) rfl (l_law_name hx12)) rfl rfl) ?_
        have h := Option.some.inj h
        subst h
        exact w_nx ⟨rfl, ⟨_, rfl⟩⟩
      · refine w_un ?_
        refine w_one ?_
        refine bnd h fun c14 hc14 h => ?_
        refine w_if (c_t (e_cmp (x := (eS x10.1)) (y := (eLs eS c14)) (e_b rfl) (e_compP (w := [some (.p (eLs D.int p_law_script)), some (oL D.int x11.2), some (.p (D.int p_law_seed)), some (.p (eLs eTSII p_law_claims)), some (.p (eLs eTSI p_law_pots)), some (.p (eLs eS p_law_others)), some (.p (D.int p_law_most)), some (oL eR2 s4.2), some (.p (D.int x5)), some (.p (eS x10.1)), none]) (dd := eR2) (E := eS) (vL_q (e_b rfl)) rfl ((compT_F _ _).symm.trans hc14) (fun x13 => ⟨_, rfl, _, rfl, (fun hp => nomatch hp), fun y hp h => by
    have h := Option.some.inj h; subst h
    exact ⟨_, (e_w (e_ix (e_b rfl) e_c (x_t 0 rfl))), rfl⟩⟩)) (u_p _) (oL_toD (e := eS) c14) (g_inL _ _))) h (fun hb h => ?_) (fun hb h => ?_)
        · refine bnd h fun x15 hx15 h => ?_
          refine w_seq (e1 := [some (.p (eLs D.int p_law_script)), some (oL D.int x11.2), some (.p (D.int p_law_seed)), some (.p (eLs eTSII p_law_claims)), some (.p (eLs eTSI p_law_pots)), some (.p (eLs eS p_law_others)), some (.p (D.int p_law_most)), some (oL eR2 s4.2), some (.p (D.int x5)), some (.p (eS x15)), none]) (w_set2 (e_call (a_c (e_v rfl) (a_c (e_op e_c (e_v rfl) rfl) a_n)) rfl (l_law_name hx15)) rfl rfl) ?_
          have h := Option.some.inj h
          subst h
          exact w_nx ⟨rfl, ⟨_, rfl⟩⟩
        · refine w_snx ?_
          have h := Option.some.inj h
          subst h
          exact w_nx ⟨rfl, ⟨_, rfl⟩⟩
    · obtain ⟨u17, rfl⟩ := he
      refine w_one ?_
      refine bnd h fun x18 hx18 h => ?_
      refine bnd h fun x19 hx19 h => ?_
      refine w_seq (e1 := [some (.p (eLs D.int p_law_script)), some (oL D.int x18.2), some (.p (D.int p_law_seed)), some (.p (eLs eTSII p_law_claims)), some (.p (eLs eTSI p_law_pots)), some (.p (eLs eS p_law_others)), some (.p (D.int p_law_most)), some (oL eR2 x19), some (.p (D.int x5)), some (.p (eS s16)), u17]) (w_appP2 (dd := eR2) rfl (e_fz (d := (eR2 x18.1)) (e_callL (e' := [some (.p (eLs D.int p_law_script)), some (oL D.int x18.2), some (.p (D.int p_law_seed)), some (.p (eLs eTSII p_law_claims)), some (.p (eLs eTSI p_law_pots)), some (.p (eLs eS p_law_others)), some (.p (D.int p_law_most)), some (oL eR2 s4.2), some (.p (D.int x5)), some (.p (eS s16)), u17]) (a_c (e_v rfl) (a_c (e_m rfl) (a_c (e_v rfl) (a_c (e_v rfl) (a_c (e_v rfl) (a_c (e_v rfl) a_n)))))) (l_law_order hx18) rfl (by kernel_rfl)) (u_t (u_c (u_p _) (u_c (oL_toD _) (u_c (oL_toD _) u_n))))) rfl hx19 rfl) ?_
      have h := Option.some.inj h
      subst h
      exact w_nx ⟨Or.inl rfl, ⟨_, _, _, rfl⟩⟩
  · obtain ⟨u6, u7, u8, rfl⟩ := he
    refine w_one ?_
    have h := Option.some.inj h
    subst h
    exact w_sret (e_m rfl) ⟨Or.inl rfl, rfl⟩
def n_law_shared_names (p_law_orders_here : List R2) : Option (List Nm) :=
  (fold (fun (x2 : R2) (s1 : (List Nm)) =>
  (fold (fun (x6 : D) (s5 : (List Nm)) =>
  (ixD x6 (0 : Int)).bind fun x8 =>
  (eqQ x8 (eS (cod "share"))).bind fun x9 =>
  ((if x9 = true then
  ((ixD x6 (1 : Int)).bind fun x10 =>
  (asQS x10).bind fun x11 =>
  (extL s5 x11).bind fun x12 =>
  some x12)
  else (some s5)) : Option ((List Nm))).bind fun s13 =>
  (ixD x6 (0 : Int)).bind fun x14 =>
  (eqQ x14 (eS (cod "repay"))).bind fun x15 =>
  (if x15 = true then
  ((ixD x6 (1 : Int)).bind fun x16 =>
  (asSN x16).bind fun x17 =>
  (push s13 x17).bind fun x18 =>
  some x18)
  else (some s13))) x2.2.2 s1).bind fun s19 =>
  some s19) p_law_orders_here ([] : List Nm)).bind fun s20 =>
  some s20
theorem l_law_shared_names {p_law_orders_here : List R2} {r : List Nm} (h : n_law_shared_names p_law_orders_here = some r) : phi_law_shared_names [(eLs eR2 p_law_orders_here)] = some (oL eS r) := by
  unfold n_law_shared_names at h
  refine runF_wp rfl ?_
  show Wp (F_law_shared_names [some (.p (eLs eR2 p_law_orders_here)), none, none, none]) _
  unfold F_law_shared_names
  refine w_seq (e1 := [some (.p (eLs eR2 p_law_orders_here)), some (oL eS ([] : List Nm)), none, none]) (w_set2 (e_l a_n rfl rfl) rfl rfl) ?_
  refine bnd h fun s20 hs20 h => ?_
  refine w_for (P := (fun e => ∃ u3, ∃ u4, e = [some (.p (eLs eR2 p_law_orders_here)), some (oL eS s20), u3, u4])) (i_l (e_v rfl)) (loop_fold (dd := eR2) (fun (s1 : (List Nm)) e => ∃ u3, ∃ u4, e = [some (.p (eLs eR2 p_law_orders_here)), some (oL eS s1), u3, u4]) ?_ _ _ _ _ ⟨_, _, rfl⟩ hs20) (fun e he => ?_)
  · intro x2 s1 sN env hR h
    obtain ⟨u3, u4, rfl⟩ := hR
    refine ⟨_, rfl, ?_⟩
    unfold B_law_shared_names_2
    refine w_one ?_
    refine bnd h fun s19 hs19 h => ?_
    refine w_for (P := (fun e => ∃ u7, e = [some (.p (eLs eR2 p_law_orders_here)), some (oL eS s19), some (.p (eR2 x2)), u7])) (i_l (e_w (e_ix (e_b rfl) e_c (x_t 2 rfl)))) (loop_fold (dd := eD) (fun (s5 : (List Nm)) e => ∃ u7, e = [some (.p (eLs eR2 p_law_orders_here)), some (oL eS s5), some (.p (eR2 x2)), u7]) ?_ _ _ _ _ ⟨_, rfl⟩ hs19) (fun e he => ?_)
    · intro x6 s5 sN env hR h
      obtain ⟨u7, rfl⟩ := hR
      refine ⟨_, rfl, ?_⟩
      unfold B_law_shared_names_1
      refine bnd h fun x8 hx8 h => ?_
      refine bnd h fun x9 hx9 h => ?_
      refine bnd h fun s13 hs13 h => ?_
      refine w_join (P := (fun e => e = [some (.p (eLs eR2 p_law_orders_here)), some (oL eS s13), some (.p (eR2 x2)), some (.p x6)])) ?_ (fun e he => ?_)
      · have h := hs13
        refine w_one ?_
        refine w_if (c_t (e_cmp (e_ix (e_b rfl) e_c (x_d hx8)) (e_s "share") (u_p _) (u_p _) hx9)) h (fun hb h => ?_) (fun hb h => ?_)
        · refine w_un ?_
          refine w_one ?_
          refine bnd h fun x10 hx10 h => ?_
          refine bnd h fun x11 hx11 h => ?_
          refine bnd h fun x12 hx12 h => ?_
          refine w_seq (e1 := [some (.p (eLs eR2 p_law_orders_here)), some (oL eS x12), some (.p (eR2 x2)), some (.p x6)]) (w_exT (dd := eS) (e' := [some (.p (eLs eR2 p_law_orders_here)), some (oL eS x12), some (.p (eR2 x2)), some (.p x6)]) (pl_nm rfl) (by kernel_rfl) (e_asQ (e_w (e_ix (e_b rfl) e_c (x_d hx10))) hx11) (by kernel_rfl) hx12 (by kernel_rfl)) ?_
          have h := Option.some.inj h
          subst h
          exact w_nx ⟨rfl, rfl⟩
        · refine w_un ?_
          have h := Option.some.inj h
          subst h
          exact w_nx ⟨rfl, rfl⟩
      · subst he
        refine w_one ?_
        refine bnd h fun x14 hx14 h => ?_
        refine bnd h fun x15 hx15 h => ?_
        refine w_if (c_t (e_cmp (e_ix (e_b rfl) e_c (x_d hx14)) (e_s "repay") (u_p _) (u_p _) hx15)) h (fun hb h => ?_) (fun hb h => ?_)
        · refine bnd h fun x16 hx16 h => ?_
          refine bnd h fun x17 hx17 h => ?_
          refine bnd h fun x18 hx18 h => ?_
          refine w_seq (e1 := [some (.p (eLs eR2 p_law_orders_here)), some (oL eS x18), some (.p (eR2 x2)), some (.p x6)]) (w_appL2 (dd := eS) rfl (e_asS (e_w (e_ix (e_b rfl) e_c (x_d hx16))) hx17) rfl hx18 rfl) ?_
          have h := Option.some.inj h
          subst h
          exact w_nx ⟨Or.inl rfl, ⟨_, rfl⟩⟩
        · refine w_snx ?_
          have h := Option.some.inj h
          subst h
          exact w_nx ⟨Or.inl rfl, ⟨_, rfl⟩⟩
    · obtain ⟨u7, rfl⟩ := he
      have h := Option.some.inj h
      subst h
      exact w_nx ⟨Or.inl rfl, ⟨_, _, rfl⟩⟩
  · obtain ⟨u3, u4, rfl⟩ := he
    refine w_one ?_
    have h := Option.some.inj h
    subst h
    exact w_sret (e_m rfl) (Or.inl rfl)
def n_law_guards (p_law_script : List Int) (p_law_at : List Int) (p_law_claims : List TSII) (p_law_pots : List TSI) (p_law_orders_here : List R2) : Option ((List TSS) × (List Int)) :=
  (n_law_shared_names p_law_orders_here).bind fun x1 =>
  (compTF (fun (x2 : TSII) => (!decide (x2.1 ∈ x1))) (fun (x2 : TSII) => x2.1) p_law_claims).bind fun c3 =>
  ((if (decide ((0 : Int) < (p_law_pots.length : Int))) = true then
  ((n_law_next p_law_script p_law_at).bind fun x4 =>
  (rng1  (minI (c3.length : Int) (x4.1 % (4 : Int)))).bind fun x5 =>
  (fold (fun (x7 : Int) (s6 : (List Int) × (List TSS)) =>
  (n_law_next p_law_script s6.1).bind fun x9 =>
  (modN x9.1 (p_law_pots.length : Int)).bind fun x10 =>
  (atI p_law_pots x10).bind fun x11 =>
  (atI c3 x7).bind fun x12 =>
  (push s6.2 (x11.1, x12)).bind fun x13 =>
  some (x9.2, x13)) x5 (x4.2, ([] : List TSS))).bind fun s14 =>
  some (s14.1, s14.2))
  else (some (p_law_at, ([] : List TSS)))) : Option ((List Int) × (List TSS))).bind fun s15 =>
  some (s15.2, s15.1)
theorem l_law_guards {p_law_script : List Int} {p_law_at : List Int} {p_law_claims : List TSII} {p_law_pots : List TSI} {p_law_orders_here : List R2} {r : (List TSS) × (List Int)} (h : n_law_guards p_law_script p_law_at p_law_claims p_law_pots p_law_orders_here = some r) : phi_law_guards [.p (eLs D.int p_law_script), (oL D.int p_law_at), .p (eLs eTSII p_law_claims), .p (eLs eTSI p_law_pots), .p (eLs eR2 p_law_orders_here)] = some ((oL eTSS r.1), [.p (eLs D.int p_law_script), (oL D.int r.2), .p (eLs eTSII p_law_claims), .p (eLs eTSI p_law_pots), .p (eLs eR2 p_law_orders_here)]) := by
  unfold n_law_guards at h
  refine runL_wp rfl ?_
  show Wp (F_law_guards [some (.p (eLs D.int p_law_script)), some (oL D.int p_law_at), some (.p (eLs eTSII p_law_claims)), some (.p (eLs eTSI p_law_pots)), some (.p (eLs eR2 p_law_orders_here)), none, none, none, none, none]) _
  unfold F_law_guards
  refine bnd h fun x1 hx1 h => ?_
  refine w_seq (e1 := [some (.p (eLs D.int p_law_script)), some (oL D.int p_law_at), some (.p (eLs eTSII p_law_claims)), some (.p (eLs eTSI p_law_pots)), some (.p (eLs eR2 p_law_orders_here)), some (.p (eLs eS x1)), none, none, none, none]) (w_set2 (e_fz (d := (eLs eS x1)) (e_call (a_c (e_v rfl) a_n) rfl (l_law_shared_names hx1)) (oL_toD (e := eS) x1)) rfl rfl) ?_
  refine bnd h fun c3 hc3 h => ?_
  refine w_seq (e1 := [some (.p (eLs D.int p_law_script)), some (oL D.int p_law_at), some (.p (eLs eTSII p_law_claims)), some (.p (eLs eTSI p_law_pots)), some (.p (eLs eR2 p_law_orders_here)), some (.p (eLs eS x1)), some (oL eS c3), none, none, none]) (w_set2 (e_compP (w := [some (.p (eLs D.int p_law_script)), some (oL D.int p_law_at), some (.p (eLs eTSII p_law_claims)), some (.p (eLs eTSI p_law_pots)), some (.p (eLs eR2 p_law_orders_here)), some (.p (eLs eS x1)), none, none, none, none]) (dd := eTSII) (E := eS) (i_l (e_v rfl)) rfl ((compTF_F _ _ _).symm.trans hc3) (fun x2 => ⟨_, rfl, _, (c_t (e_cmp (e_ix (e_b rfl) e_c (x_t 0 rfl)) (e_b rfl) (u_p _) (u_p _) (g_nin (g_inL _ _)))), (fun hp => rfl), fun y hp h => by
    have h := Option.some.inj h; subst h
    exact ⟨_, (e_w (e_ix (e_b rfl) e_c (x_t 0 rfl))), rfl⟩⟩)) rfl rfl) ?_
  refine w_seq (e1 := [some (.p (eLs D.int p_law_script)), some (oL D.int p_law_at), some (.p (eLs eTSII p_law_claims)), some (.p (eLs eTSI p_law_pots)), some (.p (eLs eR2 p_law_orders_here)), some (.p (eLs eS x1)), some (oL eS c3), none, some (oL eTSS ([] : List TSS)), none]) (w_set2 (e_l a_n rfl rfl) rfl rfl) ?_
  refine bnd h fun s15 hs15 h => ?_
  refine w_join (P := (fun e => ∃ u16, e = [some (.p (eLs D.int p_law_script)), some (oL D.int s15.1), some (.p (eLs eTSII p_law_claims)), some (.p (eLs eTSI p_law_pots)), some (.p (eLs eR2 p_law_orders_here)), some (.p (eLs eS x1)), some (oL eS c3), none, some (oL eTSS s15.2), u16])) ?_ (fun e he => ?_)
  · have h := hs15
    refine w_one ?_
    refine w_if (c_t (e_cmp (e_b1 (e_b rfl) (g_lenL _ _)) e_c (u_p _) (u_p _) rfl)) h (fun hb h => ?_) (fun hb h => ?_)
    · refine w_un ?_
      refine w_one ?_
      refine bnd h fun x4 hx4 h => ?_
      refine bnd h fun x5 hx5 h => ?_
      refine bnd h fun s14 hs14 h => ?_
      refine w_for (P := (fun e => ∃ u8, e = [some (.p (eLs D.int p_law_script)), some (oL D.int s14.1), some (.p (eLs eTSII p_law_claims)), some (.p (eLs eTSI p_law_pots)), some (.p (eLs eR2 p_law_orders_here)), some (.p (eLs eS x1)), some (oL eS c3), none, some (oL eTSS s14.2), u8])) (i_r1 (a_c (e_i2 (a_c (e_b1 (e_b rfl) (g_lenO _ _)) (a_c (e_op (e_callL (e' := [some (.p (eLs D.int p_law_script)), some (oL D.int x4.2), some (.p (eLs eTSII p_law_claims)), some (.p (eLs eTSI p_law_pots)), some (.p (eLs eR2 p_law_orders_here)), some (.p (eLs eS x1)), some (oL eS c3), none, some (oL eTSS ([] : List TSS)), none]) (a_c (e_v rfl) (a_c (e_m rfl) a_n)) (l_law_next hx4) rfl (by kernel_rfl)) e_c (g_modR rfl)) a_n))) a_n) hx5) (loop_fold (dd := D.int) (fun (s6 : (List Int) × (List TSS)) e => ∃ u8, e = [some (.p (eLs D.int p_law_script)), some (oL D.int s6.1), some (.p (eLs eTSII p_law_claims)), some (.p (eLs eTSI p_law_pots)), some (.p (eLs eR2 p_law_orders_here)), some (.p (eLs eS x1)), some (oL eS c3), none, some (oL eTSS s6.2), u8]) ?_ _ _ _ _ ⟨_, rfl⟩ hs14) (fun e he => ?_)
      · intro x7 s6 sN env hR h
        obtain ⟨u8, rfl⟩ := hR
        refine ⟨_, rfl, ?_⟩
        unfold B_law_guards_1
        refine w_one ?_
        refine bnd h fun x9 hx9 h => ?_
        refine bnd h fun x10 hx10 h => ?_
        refine bnd h fun x11 hx11 h => ?_
        refine bnd h fun x12 hx12 h => ?_
        refine bnd h fun x13 hx13 h => ?_
        refine w_seq (e1 := [some (.p (eLs D.int p_law_script)), some (oL D.int x9.2), some (.p (eLs eTSII p_law_claims)), some (.p (eLs eTSI p_law_pots)), some (.p (eLs eR2 p_law_orders_here)), some (.p (eLs eS x1)), some (oL eS c3), none, some (oL eTSS x13), some (.p (D.int x7))]) (w_appP2 (dd := eTSS) rfl (e_fz (d := (eTSS (x11.1, x12))) (e_t (a_c (e_w (e_ix (e_w (e_ix (e_v rfl) (e_op (e_callL (e' := [some (.p (eLs D.int p_law_script)), some (oL D.int x9.2), some (.p (eLs eTSII p_law_claims)), some (.p (eLs eTSI p_law_pots)), some (.p (eLs eR2 p_law_orders_here)), some (.p (eLs eS x1)), some (oL eS c3), none, some (oL eTSS s6.2), some (.p (D.int x7))]) (a_c (e_v rfl) (a_c (e_m rfl) a_n)) (l_law_next hx9) rfl (by kernel_rfl)) (e_b1 (e_b rfl) (g_lenL _ _)) (g_mod hx10)) (x_l hx11))) e_c (x_t 0 rfl))) (a_c (e_w (e_ix (e_b rfl) (e_v rfl) (x_o hx12))) a_n)) rfl (show _ = ((.p (eTSS (x11.1, x12))) : T) from rfl)) (u_p _)) rfl hx13 rfl) ?_
        have h := Option.some.inj h
        subst h
        exact w_nx ⟨Or.inl rfl, ⟨_, rfl⟩⟩
      · obtain ⟨u8, rfl⟩ := he
        have h := Option.some.inj h
        subst h
        exact w_nx ⟨rfl, ⟨_, rfl⟩⟩
    · refine w_un ?_
      have h := Option.some.inj h
      subst h
      exact w_nx ⟨rfl, ⟨_, rfl⟩⟩
  · obtain ⟨u16, rfl⟩ := he
    refine w_one ?_
    have h := Option.some.inj h
    subst h
    exact w_sret (e_m rfl) ⟨Or.inl rfl, rfl⟩
def n_law_pool (p_law_script : List Int) (p_law_at : List Int) (p_law_seed : Int) (p_law_k : Int) (p_law_others : List Nm) (p_law_most : Int) : Option (R3 × (List Int)) :=
  (n_law_next p_law_script p_law_at).bind fun x1 =>
  (rng1  ((1 : Int) + (x1.1 % (6 : Int)))).bind fun x2 =>
  (fold (fun (x4 : Int) (s3 : (List Int) × (List TSII)) =>
  (n_law_next p_law_script s3.1).bind fun x7 =>
  (n_law_coins x7.1).bind fun x8 =>
  (n_law_name p_law_seed ((((10 : Int) * p_law_k) + (1 : Int)) + x4)).bind fun x9 =>
  (n_law_next p_law_script x7.2).bind fun x10 =>
  (n_law_coins x10.1).bind fun x11 =>
  (push s3.2 (x9, x8, x11)).bind fun x12 =>
  some (x10.2, x12)) x2 (x1.2, ([] : List TSII))).bind fun s13 =>
  (rng1  ((x1.1 / (6 : Int)) % (4 : Int))).bind fun x14 =>
  (compS (fun (x15 : Int) (s16 : (List Int)) => (n_law_name p_law_seed ((((10 : Int) * p_law_k) + (7 : Int)) + x15)).bind fun x17 =>
  (n_law_next p_law_script s16).bind fun x18 =>
  (n_law_coins x18.1).bind fun x19 =>
  some ((x17, x19), x18.2)) x14 s13.1).bind fun x20 =>
  (modN (x1.1 / (24 : Int)) ((s13.2.length : Int) + (1 : Int))).bind fun x21 =>
  (rng1  x21).bind fun x22 =>
  (compO (fun (x23 : Int) => (modN ((x1.1 / (100 : Int)) + x23) (s13.2.length : Int)).bind fun x24 =>
  (atI s13.2 x24).bind fun x25 =>
  some x25.1) x22).bind fun c26 =>
  (n_law_orders p_law_script x20.2 p_law_seed s13.2 x20.1 p_law_others p_law_most).bind fun x27 =>
  (rng1  ((x1.1 / (1000 : Int)) % (5 : Int))).bind fun x28 =>
  (fold (fun (x30 : Int) (s29 : (List Int) × (List TSIS)) =>
  (n_law_next p_law_script s29.1).bind fun x33 =>
  (modN x33.1 (s13.2.length : Int)).bind fun x34 =>
  (atI s13.2 x34).bind fun x35 =>
  (modN (x33.1 / (100 : Int)) (x27.1.length : Int)).bind fun x36 =>
  (atI x27.1 x36).bind fun x37 =>
  (push s29.2 (x35.1, ((1 : Int) + ((x33.1 / (10 : Int)) % (9 : Int))), x37.1)).bind fun x38 =>
  some (x33.2, x38)) x28 (x27.2, ([] : List TSIS))).bind fun s39 =>
  (n_law_guards p_law_script s39.1 s13.2 x20.1 x27.1).bind fun x40 =>
  (n_law_name p_law_seed ((10 : Int) * p_law_k)).bind fun x41 =>
  some ((x41, s13.2, x20.1, c26, x27.1, s39.2, x40.1), x40.2)
theorem l_law_pool {p_law_script : List Int} {p_law_at : List Int} {p_law_seed : Int} {p_law_k : Int} {p_law_others : List Nm} {p_law_most : Int} {r : R3 × (List Int)} (h : n_law_pool p_law_script p_law_at p_law_seed p_law_k p_law_others p_law_most = some r) : phi_law_pool [.p (eLs D.int p_law_script), (oL D.int p_law_at), .p (D.int p_law_seed), .p (D.int p_law_k), .p (eLs eS p_law_others), .p (D.int p_law_most)] = some ((.tup [(.p (eS r.1.1)), (.p (eLs eTSII r.1.2.1)), (.p (eLs eTSI r.1.2.2.1)), (oL eS r.1.2.2.2.1), (.p (eLs eR2 r.1.2.2.2.2.1)), (oL eTSIS r.1.2.2.2.2.2.1), (oL eTSS r.1.2.2.2.2.2.2)]), [.p (eLs D.int p_law_script), (oL D.int r.2), .p (D.int p_law_seed), .p (D.int p_law_k), .p (eLs eS p_law_others), .p (D.int p_law_most)]) := by
  unfold n_law_pool at h
  refine runL_wp rfl ?_
  show Wp (F_law_pool [some (.p (eLs D.int p_law_script)), some (oL D.int p_law_at), some (.p (D.int p_law_seed)), some (.p (D.int p_law_k)), some (.p (eLs eS p_law_others)), some (.p (D.int p_law_most)), none, none, none, none, none, none, none, none, none, none, none]) _
  unfold F_law_pool
  refine bnd h fun x1 hx1 h => ?_
  refine w_seq (e1 := [some (.p (eLs D.int p_law_script)), some (oL D.int x1.2), some (.p (D.int p_law_seed)), some (.p (D.int p_law_k)), some (.p (eLs eS p_law_others)), some (.p (D.int p_law_most)), some (.p (D.int x1.1)), none, none, none, none, none, none, none, none, none, none]) (w_set2 (e_callL (e' := [some (.p (eLs D.int p_law_script)), some (oL D.int x1.2), some (.p (D.int p_law_seed)), some (.p (D.int p_law_k)), some (.p (eLs eS p_law_others)), some (.p (D.int p_law_most)), none, none, none, none, none, none, none, none, none, none, none]) (a_c (e_v rfl) (a_c (e_m rfl) a_n)) (l_law_next hx1) rfl (by kernel_rfl)) rfl rfl) ?_
  refine w_seq (e1 := [some (.p (eLs D.int p_law_script)), some (oL D.int x1.2), some (.p (D.int p_law_seed)), some (.p (D.int p_law_k)), some (.p (eLs eS p_law_others)), some (.p (D.int p_law_most)), some (.p (D.int x1.1)), some (oL eTSII ([] : List TSII)), none, none, none, none, none, none, none, none, none]) (w_set2 (e_l a_n rfl rfl) rfl rfl) ?_
  refine bnd h fun x2 hx2 h => ?_
  refine bnd h fun s13 hs13 h => ?_
  refine w_for (P := (fun e => ∃ u5, ∃ u6, e = [some (.p (eLs D.int p_law_script)), some (oL D.int s13.1), some (.p (D.int p_law_seed)), some (.p (D.int p_law_k)), some (.p (eLs eS p_law_others)), some (.p (D.int p_law_most)), some (.p (D.int x1.1)), some (oL eTSII s13.2), u5, u6, none, none, none, none, none, none, none])) (i_r1 (a_c (e_op e_c (e_op (e_v rfl) e_c (g_modR rfl)) rfl) a_n) hx2) (loop_fold (dd := D.int) (fun (s3 : (List Int) × (List TSII)) e => ∃ u5, ∃ u6, e = [some (.p (eLs D.int p_law_script)), some (oL D.int s3.1), some (.p (D.int p_law_seed)), some (.p (D.int p_law_k)), some (.p (eLs eS p_law_others)), some (.p (D.int p_law_most)), some (.p (D.int x1.1)), some (oL eTSII s3.2), u5, u6, none, none, none, none, none, none, none]) ?_ _ _ _ _ ⟨_, _, rfl⟩ hs13) (fun e he => ?_)
  · intro x4 s3 sN env hR h
    obtain ⟨u5, u6, rfl⟩ := hR
    refine ⟨_, rfl, ?_⟩
    unfold B_law_pool_1
    refine bnd h fun x7 hx7 h => ?_
    refine bnd h fun x8 hx8 h => ?_
    refine w_seq (e1 := [some (.p (eLs D.int p_law_script)), some (oL D.int x7.2), some (.p (D.int p_law_seed)), some (.p (D.int p_law_k)), some (.p (eLs eS p_law_others)), some (.p (D.int p_law_most)), some (.p (D.int x1.1)), some (oL eTSII s3.2), some (.p (D.int x4)), some (.p (D.int x8)), none, none, none, none, none, none, none]) (w_set2 (e_call (a_c (e_fz (d := (D.int x7.1)) (e_callL (e' := [some (.p (eLs D.int p_law_script)), some (oL D.int x7.2), some (.p (D.int p_law_seed)), some (.p (D.int p_law_k)), some (.p (eLs eS p_law_others)), some (.p (D.int p_law_most)), some (.p (D.int x1.1)), some (oL eTSII s3.2), some (.p (D.int x4)), u6, none, none, none, none, none, none, none]) (a_c (e_v rfl) (a_c (e_m rfl) a_n)) (l_law_next hx7) rfl (by kernel_rfl)) (u_p _)) a_n) rfl (l_law_coins hx8)) rfl rfl) ?_
    refine w_one ?_
    refine bnd h fun x9 hx9 h => ?_
    refine bnd h fun x10 hx10 h => ?_
    refine bnd h fun x11 hx11 h => ?_
    refine bnd h fun x12 hx12 h => ?_
    refine w_seq (e1 := [some (.p (eLs D.int p_law_script)), some (oL D.int x10.2), some (.p (D.int p_law_seed)), some (.p (D.int p_law_k)), some (.p (eLs eS p_law_others)), some (.p (D.int p_law_most)), some (.p (D.int x1.1)), some (oL eTSII x12), some (.p (D.int x4)), some (.p (D.int x8)), none, none, none, none, none, none, none]) (w_appP2 (dd := eTSII) rfl (e_fz (d := (eTSII (x9, x8, x11))) (e_t (a_c (e_call (a_c (e_v rfl) (a_c (e_op (e_op (e_op e_c (e_v rfl) (g_mulL rfl)) e_c rfl) (e_v rfl) rfl) a_n)) rfl (l_law_name hx9)) (a_c (e_v rfl) (a_c (e_call (a_c (e_fz (d := (D.int x10.1)) (e_callL (e' := [some (.p (eLs D.int p_law_script)), some (oL D.int x10.2), some (.p (D.int p_law_seed)), some (.p (D.int p_law_k)), some (.p (eLs eS p_law_others)), some (.p (D.int p_law_most)), some (.p (D.int x1.1)), some (oL eTSII s3.2), some (.p (D.int x4)), some (.p (D.int x8)), none, none, none, none, none, none, none]) (a_c (e_v rfl) (a_c (e_m rfl) a_n)) (l_law_next hx10) rfl (by kernel_rfl)) (u_p _)) a_n) rfl (l_law_coins hx11)) a_n))) rfl (show _ = ((.p (eTSII (x9, x8, x11))) : T) from rfl)) (u_p _)) rfl hx12 rfl) ?_
    have h := Option.some.inj h
    subst h
    exact w_nx ⟨Or.inl rfl, ⟨_, _, rfl⟩⟩
  · obtain ⟨u5, u6, rfl⟩ := he
    refine bnd h fun x14 hx14 h => ?_
    refine bnd h fun x20 hx20 h => ?_
    refine w_seq (e1 := [some (.p (eLs D.int p_law_script)), some (oL D.int x20.2), some (.p (D.int p_law_seed)), some (.p (D.int p_law_k)), some (.p (eLs eS p_law_others)), some (.p (D.int p_law_most)), some (.p (D.int x1.1)), some (oL eTSII s13.2), none, u6, some (oL eTSI x20.1), none, none, none, none, none, none]) (w_set2 (e_compSP (dd := D.int) (E := eTSI) (I := fun s16 => [some (.p (eLs D.int p_law_script)), some (oL D.int s16), some (.p (D.int p_law_seed)), some (.p (D.int p_law_k)), some (.p (eLs eS p_law_others)), some (.p (D.int p_law_most)), some (.p (D.int x1.1)), some (oL eTSII s13.2), none, u6, none, none, none, none, none, none, none]) (i_r1 (a_c (e_op (e_op (e_v rfl) e_c (g_divR rfl)) e_c (g_modR rfl)) a_n) hx14) rfl hx20 (fun x15 s16 y s' h => by
    refine bnd h fun x17 hx17 h => ?_
    refine bnd h fun x18 hx18 h => ?_
    refine bnd h fun x19 hx19 h => ?_
    obtain ⟨rfl, rfl⟩ := Prod.mk.inj (Option.some.inj h)
    exact ⟨_, rfl, _, rfl, _, (e_t (a_c (e_call (a_c (e_v rfl) (a_c (e_op (e_op (e_op e_c (e_v rfl) (g_mulL rfl)) e_c rfl) (e_v rfl) rfl) a_n)) rfl (l_law_name hx17)) (a_c (e_call (a_c (e_fz (d := (D.int x18.1)) (e_callL (e' := [some (.p (eLs D.int p_law_script)), some (oL D.int x18.2), some (.p (D.int p_law_seed)), some (.p (D.int p_law_k)), some (.p (eLs eS p_law_others)), some (.p (D.int p_law_most)), some (.p (D.int x1.1)), some (oL eTSII s13.2), some (.p (D.int x15)), u6, none, none, none, none, none, none, none]) (a_c (e_v rfl) (a_c (e_m rfl) a_n)) (l_law_next hx18) rfl (by kernel_rfl)) (u_p _)) a_n) rfl (l_law_coins hx19)) a_n)) rfl (show _ = ((.p (eTSI (x17, x19))) : T) from rfl)), rfl⟩)) rfl rfl) ?_
    refine w_seq (e1 := [some (.p (eLs D.int p_law_script)), some (oL D.int x20.2), some (.p (D.int p_law_seed)), some (.p (D.int p_law_k)), some (.p (eLs eS p_law_others)), some (.p (D.int p_law_most)), some (.p (D.int x1.1)), some (oL eTSII s13.2), none, u6, some (oL eTSI x20.1), some (.p (D.int (s13.2.length : Int))), none, none, none, none, none]) (w_set2 (e_b1 (e_b rfl) (g_lenO _ _)) rfl rfl) ?_
    refine bnd h fun x21 hx21 h => ?_
    refine bnd h fun x22 hx22 h => ?_
    refine bnd h fun c26 hc26 h => ?_
    refine w_seq (e1 := [some (.p (eLs D.int p_law_script)), some (oL D.int x20.2), some (.p (D.int p_law_seed)), some (.p (D.int p_law_k)), some (.p (eLs eS p_law_others)), some (.p (D.int p_law_most)), some (.p (D.int x1.1)), some (oL eTSII s13.2), none, u6, some (oL eTSI x20.1), some (.p (D.int (s13.2.length : Int))), some (oL eS c26), none, none, none, none]) (w_set2 (e_compP (w := [some (.p (eLs D.int p_law_script)), some (oL D.int x20.2), some (.p (D.int p_law_seed)), some (.p (D.int p_law_k)), some (.p (eLs eS p_law_others)), some (.p (D.int p_law_most)), some (.p (D.int x1.1)), some (oL eTSII s13.2), none, u6, some (oL eTSI x20.1), some (.p (D.int (s13.2.length : Int))), none, none, none, none, none]) (dd := D.int) (E := eS) (i_r1 (a_c (e_op (e_op (e_v rfl) e_c (g_divR rfl)) (e_op (e_v rfl) e_c rfl) (g_mod hx21)) a_n) hx22) rfl ((compO_F _ _).symm.trans hc26) (fun x23 => ⟨_, rfl, _, rfl, (fun hp => nomatch hp), fun y hp h => by
    refine bnd h fun x24 hx24 h => ?_
    refine bnd h fun x25 hx25 h => ?_
    have h := Option.some.inj h; subst h
    exact ⟨_, (e_w (e_ix (e_ix (e_b rfl) (e_op (e_op (e_op (e_v rfl) e_c (g_divR rfl)) (e_v rfl) rfl) (e_v rfl) (g_mod hx24)) (x_o hx25)) e_c (x_t 0 rfl))), rfl⟩⟩)) rfl rfl) ?_
    refine bnd h fun x27 hx27 h => ?_
    refine w_seq (e1 := [some (.p (eLs D.int p_law_script)), some (oL D.int x27.2), some (.p (D.int p_law_seed)), some (.p (D.int p_law_k)), some (.p (eLs eS p_law_others)), some (.p (D.int p_law_most)), some (.p (D.int x1.1)), some (.p (eLs eTSII s13.2)), none, u6, some (.p (eLs eTSI x20.1)), some (.p (D.int (s13.2.length : Int))), some (oL eS c26), some (oL eR2 x27.1), none, none, none]) (w_set2 (e_callL (e' := [some (.p (eLs D.int p_law_script)), some (oL D.int x27.2), some (.p (D.int p_law_seed)), some (.p (D.int p_law_k)), some (.p (eLs eS p_law_others)), some (.p (D.int p_law_most)), some (.p (D.int x1.1)), some (.p (eLs eTSII s13.2)), none, u6, some (.p (eLs eTSI x20.1)), some (.p (D.int (s13.2.length : Int))), some (oL eS c26), none, none, none, none]) (a_c (e_v rfl) (a_c (e_m rfl) (a_c (e_v rfl) (a_c (e_vl (d := (eLs eTSII) s13.2) rfl (oL_toD _)) (a_c (e_vl (d := (eLs eTSI) x20.1) rfl (oL_toD _)) (a_c (e_v rfl) (a_c (e_v rfl) a_n))))))) (l_law_orders hx27) rfl (by kernel_rfl)) rfl rfl) ?_
    refine w_seq (e1 := [some (.p (eLs D.int p_law_script)), some (oL D.int x27.2), some (.p (D.int p_law_seed)), some (.p (D.int p_law_k)), some (.p (eLs eS p_law_others)), some (.p (D.int p_law_most)), some (.p (D.int x1.1)), some (.p (eLs eTSII s13.2)), none, u6, some (.p (eLs eTSI x20.1)), some (.p (D.int (s13.2.length : Int))), some (oL eS c26), some (oL eR2 x27.1), some (oL eTSIS ([] : List TSIS)), none, none]) (w_set2 (e_l a_n rfl rfl) rfl rfl) ?_
    refine bnd h fun x28 hx28 h => ?_
    refine bnd h fun s39 hs39 h => ?_
    refine w_for (P := (fun e => ∃ u31, ∃ u32, e = [some (.p (eLs D.int p_law_script)), some (oL D.int s39.1), some (.p (D.int p_law_seed)), some (.p (D.int p_law_k)), some (.p (eLs eS p_law_others)), some (.p (D.int p_law_most)), some (.p (D.int x1.1)), some (.p (eLs eTSII s13.2)), u31, u6, some (.p (eLs eTSI x20.1)), some (.p (D.int (s13.2.length : Int))), some (oL eS c26), some (oL eR2 x27.1), some (oL eTSIS s39.2), u32, none])) (i_r1 (a_c (e_op (e_op (e_v rfl) e_c (g_divR rfl)) e_c (g_modR rfl)) a_n) hx28) (loop_fold (dd := D.int) (fun (s29 : (List Int) × (List TSIS)) e => ∃ u31, ∃ u32, e = [some (.p (eLs D.int p_law_script)), some (oL D.int s29.1), some (.p (D.int p_law_seed)), some (.p (D.int p_law_k)), some (.p (eLs eS p_law_others)), some (.p (D.int p_law_most)), some (.p (D.int x1.1)), some (.p (eLs eTSII s13.2)), u31, u6, some (.p (eLs eTSI x20.1)), some (.p (D.int (s13.2.length : Int))), some (oL eS c26), some (oL eR2 x27.1), some (oL eTSIS s29.2), u32, none]) ?_ _ _ _ _ ⟨_, _, rfl⟩ hs39) (fun e he => ?_)
    · intro x30 s29 sN env hR h
      obtain ⟨u31, u32, rfl⟩ := hR
      refine ⟨_, rfl, ?_⟩
      unfold B_law_pool_2
      refine bnd h fun x33 hx33 h => ?_
      refine w_seq (e1 := [some (.p (eLs D.int p_law_script)), some (oL D.int x33.2), some (.p (D.int p_law_seed)), some (.p (D.int p_law_k)), some (.p (eLs eS p_law_others)), some (.p (D.int p_law_most)), some (.p (D.int x1.1)), some (.p (eLs eTSII s13.2)), some (.p (D.int x30)), u6, some (.p (eLs eTSI x20.1)), some (.p (D.int (s13.2.length : Int))), some (oL eS c26), some (oL eR2 x27.1), some (oL eTSIS s29.2), some (.p (D.int x33.1)), none]) (w_set2 (e_callL (e' := [some (.p (eLs D.int p_law_script)), some (oL D.int x33.2), some (.p (D.int p_law_seed)), some (.p (D.int p_law_k)), some (.p (eLs eS p_law_others)), some (.p (D.int p_law_most)), some (.p (D.int x1.1)), some (.p (eLs eTSII s13.2)), some (.p (D.int x30)), u6, some (.p (eLs eTSI x20.1)), some (.p (D.int (s13.2.length : Int))), some (oL eS c26), some (oL eR2 x27.1), some (oL eTSIS s29.2), u32, none]) (a_c (e_v rfl) (a_c (e_m rfl) a_n)) (l_law_next hx33) rfl (by kernel_rfl)) rfl rfl) ?_
      refine w_one ?_
      refine bnd h fun x34 hx34 h => ?_
      refine bnd h fun x35 hx35 h => ?_
      refine bnd h fun x36 hx36 h => ?_
      refine bnd h fun x37 hx37 h => ?_
      refine bnd h fun x38 hx38 h => ?_
      refine w_seq (e1 := [some (.p (eLs D.int p_law_script)), some (oL D.int x33.2), some (.p (D.int p_law_seed)), some (.p (D.int p_law_k)), some (.p (eLs eS p_law_others)), some (.p (D.int p_law_most)), some (.p (D.int x1.1)), some (.p (eLs eTSII s13.2)), some (.p (D.int x30)), u6, some (.p (eLs eTSI x20.1)), some (.p (D.int (s13.2.length : Int))), some (oL eS c26), some (oL eR2 x27.1), some (oL eTSIS x38), some (.p (D.int x33.1)), none]) (w_appL2 (dd := eTSIS) rfl (e_fz (d := (eTSIS (x35.1, ((1 : Int) + ((x33.1 / (10 : Int)) % (9 : Int))), x37.1))) (e_t (a_c (e_w (e_ix (e_ix (e_b rfl) (e_op (e_v rfl) (e_v rfl) (g_mod hx34)) (x_l hx35)) e_c (x_t 0 rfl))) (a_c (e_op e_c (e_op (e_op (e_v rfl) e_c (g_divR rfl)) e_c (g_modR rfl)) rfl) (a_c (e_w (e_ix (e_ix (e_b rfl) (e_op (e_op (e_v rfl) e_c (g_divR rfl)) (e_b1 (e_b rfl) (g_lenO _ _)) (g_mod hx36)) (x_o hx37)) e_c (x_t 0 rfl))) a_n))) rfl (show _ = ((.p (eTSIS (x35.1, ((1 : Int) + ((x33.1 / (10 : Int)) % (9 : Int))), x37.1))) : T) from rfl)) (u_p _)) rfl hx38 rfl) ?_
      have h := Option.some.inj h
      subst h
      exact w_nx ⟨Or.inl rfl, ⟨_, _, rfl⟩⟩
    · obtain ⟨u31, u32, rfl⟩ := he
      refine bnd h fun x40 hx40 h => ?_
      refine w_seq (e1 := [some (.p (eLs D.int p_law_script)), some (oL D.int x40.2), some (.p (D.int p_law_seed)), some (.p (D.int p_law_k)), some (.p (eLs eS p_law_others)), some (.p (D.int p_law_most)), some (.p (D.int x1.1)), some (.p (eLs eTSII s13.2)), u31, u6, some (.p (eLs eTSI x20.1)), some (.p (D.int (s13.2.length : Int))), some (oL eS c26), some (.p (eLs eR2 x27.1)), some (oL eTSIS s39.2), u32, some (oL eTSS x40.1)]) (w_set2 (e_callL (e' := [some (.p (eLs D.int p_law_script)), some (oL D.int x40.2), some (.p (D.int p_law_seed)), some (.p (D.int p_law_k)), some (.p (eLs eS p_law_others)), some (.p (D.int p_law_most)), some (.p (D.int x1.1)), some (.p (eLs eTSII s13.2)), u31, u6, some (.p (eLs eTSI x20.1)), some (.p (D.int (s13.2.length : Int))), some (oL eS c26), some (.p (eLs eR2 x27.1)), some (oL eTSIS s39.2), u32, none]) (a_c (e_v rfl) (a_c (e_m rfl) (a_c (e_v rfl) (a_c (e_v rfl) (a_c (e_vl (d := (eLs eR2) x27.1) rfl (oL_toD _)) a_n))))) (l_law_guards hx40) rfl (by kernel_rfl)) rfl rfl) ?_
      refine w_one ?_
      refine bnd h fun x41 hx41 h => ?_
      have h := Option.some.inj h
      subst h
      exact w_sret (e_t (a_c (e_call (a_c (e_v rfl) (a_c (e_op e_c (e_v rfl) (g_mulL rfl)) a_n)) rfl (l_law_name hx41)) (a_c (e_m rfl) (a_c (e_m rfl) (a_c (e_m rfl) (a_c (e_m rfl) (a_c (e_m rfl) (a_c (e_m rfl) a_n))))))) rfl (show _ = ((.tup [(.p (eS ((x41, s13.2, x20.1, c26, x27.1, s39.2, x40.1).1))), (.p (eLs eTSII ((x41, s13.2, x20.1, c26, x27.1, s39.2, x40.1).2.1))), (.p (eLs eTSI ((x41, s13.2, x20.1, c26, x27.1, s39.2, x40.1).2.2.1))), (oL eS ((x41, s13.2, x20.1, c26, x27.1, s39.2, x40.1).2.2.2.1)), (.p (eLs eR2 ((x41, s13.2, x20.1, c26, x27.1, s39.2, x40.1).2.2.2.2.1))), (oL eTSIS ((x41, s13.2, x20.1, c26, x27.1, s39.2, x40.1).2.2.2.2.2.1)), (oL eTSS ((x41, s13.2, x20.1, c26, x27.1, s39.2, x40.1).2.2.2.2.2.2))]) : T) from rfl)) ⟨Or.inl rfl, rfl⟩
def n_law_deal (p_law_script : List Int) : Option (List R3) :=
  (n_law_draw p_law_script (0 : Int)).bind fun x1 =>
  (n_law_next p_law_script [(0 : Int)]).bind fun x2 =>
  (atI [(1 : Int), (2 : Int), (3 : Int), (1 : Int), (2 : Int), (6 : Int)] (x2.1 % (6 : Int))).bind fun x3 =>
  (rng1  x3).bind fun x4 =>
  (compO (fun (x5 : Int) => (n_law_name (x1 % (1000000000000 : Int)) ((10 : Int) * x5)).bind fun x6 =>
  some x6) x4).bind fun c7 =>
  (rng1  x3).bind fun x8 =>
  (fold (fun (x10 : Int) (s9 : (List Int) × (List R3)) =>
  (compG (fun (x14 : Nm) =>
  (atI c7 x10).bind fun x15 =>
  (if (!decide (x14 = x15)) = true then (some (some x14)) else some none)) c7).bind fun c16 =>
  (atI [(5 : Int), (2 : Int)] (if (decide (x3 = (6 : Int))) = true then (1 : Int) else (0 : Int))).bind fun x17 =>
  (n_law_pool p_law_script s9.1 (x1 % (1000000000000 : Int)) x10 c16 x17).bind fun x18 =>
  (push s9.2 x18.1).bind fun x19 =>
  some (x18.2, x19)) x8 (x2.2, ([] : List R3))).bind fun s20 =>
  some s20.2
theorem l_law_deal {p_law_script : List Int} {r : List R3} (h : n_law_deal p_law_script = some r) : phi_law_deal [(eLs D.int p_law_script)] = some (oL eR3 r) := by
  unfold n_law_deal at h
  refine runF_wp rfl ?_
  show Wp (F_law_deal [some (.p (eLs D.int p_law_script)), none, none, none, none, none, none, none, none, none]) _
  unfold F_law_deal
  refine w_seq (e1 := [some (.p (eLs D.int p_law_script)), some (oL D.int [(0 : Int)]), none, none, none, none, none, none, none, none]) (w_set2 (e_l (a_c e_c a_n) rfl (show _ = ((oL D.int [(0 : Int)]) : T) from rfl)) rfl rfl) ?_
  refine bnd h fun x1 hx1 h => ?_
  refine w_seq (e1 := [some (.p (eLs D.int p_law_script)), some (oL D.int [(0 : Int)]), some (.p (D.int (x1 % (1000000000000 : Int)))), none, none, none, none, none, none, none]) (w_set2 (e_op (e_call (a_c (e_v rfl) (a_c e_c a_n)) rfl (l_law_draw hx1)) (e_op e_c e_c ((g_powR rfl).trans (congrArg (fun z => some (D.int z)) (by decide)))) (g_modR rfl)) rfl rfl) ?_
  refine bnd h fun x2 hx2 h => ?_
  refine w_seq (e1 := [some (.p (eLs D.int p_law_script)), some (oL D.int x2.2), some (.p (D.int (x1 % (1000000000000 : Int)))), some (.p (D.int x2.1)), none, none, none, none, none, none]) (w_set2 (e_callL (e' := [some (.p (eLs D.int p_law_script)), some (oL D.int x2.2), some (.p (D.int (x1 % (1000000000000 : Int)))), none, none, none, none, none, none, none]) (a_c (e_v rfl) (a_c (e_m rfl) a_n)) (l_law_next hx2) rfl (by kernel_rfl)) rfl rfl) ?_
  refine bnd h fun x3 hx3 h => ?_
  refine w_seq (e1 := [some (.p (eLs D.int p_law_script)), some (oL D.int x2.2), some (.p (D.int (x1 % (1000000000000 : Int)))), some (.p (D.int x2.1)), some (.p (D.int x3)), none, none, none, none, none]) (w_set2 (e_w (e_ix (e_l (a_c e_c (a_c e_c (a_c e_c (a_c e_c (a_c e_c (a_c e_c a_n)))))) rfl (show _ = ((oL D.int [(1 : Int), (2 : Int), (3 : Int), (1 : Int), (2 : Int), (6 : Int)]) : T) from rfl)) (e_op (e_v rfl) e_c (g_modR rfl)) (x_o hx3))) rfl rfl) ?_
  refine bnd h fun x4 hx4 h => ?_
  refine bnd h fun c7 hc7 h => ?_
  refine w_seq (e1 := [some (.p (eLs D.int p_law_script)), some (oL D.int x2.2), some (.p (D.int (x1 % (1000000000000 : Int)))), some (.p (D.int x2.1)), some (.p (D.int x3)), some (oL eS c7), none, none, none, none]) (w_set2 (e_compP (w := [some (.p (eLs D.int p_law_script)), some (oL D.int x2.2), some (.p (D.int (x1 % (1000000000000 : Int)))), some (.p (D.int x2.1)), some (.p (D.int x3)), none, none, none, none, none]) (dd := D.int) (E := eS) (i_r1 (a_c (e_v rfl) a_n) hx4) rfl ((compO_F _ _).symm.trans hc7) (fun x5 => ⟨_, rfl, _, rfl, (fun hp => nomatch hp), fun y hp h => by
    refine bnd h fun x6 hx6 h => ?_
    have h := Option.some.inj h; subst h
    exact ⟨_, (e_call (a_c (e_v rfl) (a_c (e_op e_c (e_v rfl) (g_mulL rfl)) a_n)) rfl (l_law_name hx6)), rfl⟩⟩)) rfl rfl) ?_
  refine w_seq (e1 := [some (.p (eLs D.int p_law_script)), some (oL D.int x2.2), some (.p (D.int (x1 % (1000000000000 : Int)))), some (.p (D.int x2.1)), some (.p (D.int x3)), some (oL eS c7), none, some (oL eR3 ([] : List R3)), none, none]) (w_set2 (e_l a_n rfl rfl) rfl rfl) ?_
  refine bnd h fun x8 hx8 h => ?_
  refine bnd h fun s20 hs20 h => ?_
  refine w_for (P := (fun e => ∃ u11, ∃ u12, ∃ u13, e = [some (.p (eLs D.int p_law_script)), some (oL D.int s20.1), some (.p (D.int (x1 % (1000000000000 : Int)))), some (.p (D.int x2.1)), some (.p (D.int x3)), some (oL eS c7), u11, some (oL eR3 s20.2), u12, u13])) (i_r1 (a_c (e_v rfl) a_n) hx8) (loop_fold (dd := D.int) (fun (s9 : (List Int) × (List R3)) e => ∃ u11, ∃ u12, ∃ u13, e = [some (.p (eLs D.int p_law_script)), some (oL D.int s9.1), some (.p (D.int (x1 % (1000000000000 : Int)))), some (.p (D.int x2.1)), some (.p (D.int x3)), some (oL eS c7), u11, some (oL eR3 s9.2), u12, u13]) ?_ _ _ _ _ ⟨_, _, _, rfl⟩ hs20) (fun e he => ?_)
  · intro x10 s9 sN env hR h
    obtain ⟨u11, u12, u13, rfl⟩ := hR
    refine ⟨_, rfl, ?_⟩
    unfold B_law_deal_1
    refine bnd h fun c16 hc16 h => ?_
    refine w_seq (e1 := [some (.p (eLs D.int p_law_script)), some (oL D.int s9.1), some (.p (D.int (x1 % (1000000000000 : Int)))), some (.p (D.int x2.1)), some (.p (D.int x3)), some (oL eS c7), some (.p (D.int x10)), some (oL eR3 s9.2), some (oL eS c16), none]) (w_set2 (e_compGP (w := [some (.p (eLs D.int p_law_script)), some (oL D.int s9.1), some (.p (D.int (x1 % (1000000000000 : Int)))), some (.p (D.int x2.1)), some (.p (D.int x3)), some (oL eS c7), some (.p (D.int x10)), some (oL eR3 s9.2), u12, none]) (dd := eS) (E := eS) (vL_q (e_b rfl)) rfl hc16 (fun x14 o h => by
    refine bnd h fun x15 hx15 h => ?_
    refine ⟨_, rfl, _, _, (c_t (e_cmp (e_b rfl) (e_ix (e_b rfl) (e_v rfl) (x_o hx15)) (u_p _) (u_p _) (g_ne eqQ_g))), ?_⟩
    refine ifs h (fun hb h => Or.inr ?_) (fun hb h => Or.inl ?_)
    · refine ⟨hb, ?_⟩
      have h := Option.some.inj h; subst h
      exact ⟨_, rfl, _, (e_v rfl), rfl⟩
    · exact ⟨hb, (Option.some.inj h).symm, rfl⟩)) rfl rfl) ?_
    refine w_one ?_
    refine bnd h fun x17 hx17 h => ?_
    refine bnd h fun x18 hx18 h => ?_
    refine bnd h fun x19 hx19 h => ?_
    refine w_seq (e1 := [some (.p (eLs D.int p_law_script)), some (oL D.int x18.2), some (.p (D.int (x1 % (1000000000000 : Int)))), some (.p (D.int x2.1)), some (.p (D.int x3)), some (oL eS c7), some (.p (D.int x10)), some (oL eR3 x19), some (.p (eLs eS c16)), none]) (w_appP2 (dd := eR3) rfl (e_fz (d := (eR3 x18.1)) (e_callL (e' := [some (.p (eLs D.int p_law_script)), some (oL D.int x18.2), some (.p (D.int (x1 % (1000000000000 : Int)))), some (.p (D.int x2.1)), some (.p (D.int x3)), some (oL eS c7), some (.p (D.int x10)), some (oL eR3 s9.2), some (.p (eLs eS c16)), none]) (a_c (e_v rfl) (a_c (e_m rfl) (a_c (e_v rfl) (a_c (e_v rfl) (a_c (e_vl (d := (eLs eS) c16) rfl (oL_toD _)) (a_c (e_w (e_ix (e_l (a_c e_c (a_c e_c a_n)) rfl (show _ = ((oL D.int [(5 : Int), (2 : Int)]) : T) from rfl)) (e_b1 (e_cmp (e_b rfl) e_c (u_p _) (u_p _) eqQ_i) rfl) (x_o hx17))) a_n)))))) (l_law_pool hx18) rfl (by kernel_rfl)) (u_t (u_c (u_p _) (u_c (u_p _) (u_c (u_p _) (u_c (oL_toD _) (u_c (u_p _) (u_c (oL_toD _) (u_c (oL_toD _) u_n))))))))) rfl hx19 rfl) ?_
    have h := Option.some.inj h
    subst h
    exact w_nx ⟨Or.inl rfl, ⟨_, _, _, rfl⟩⟩
  · obtain ⟨u11, u12, u13, rfl⟩ := he
    refine w_one ?_
    have h := Option.some.inj h
    subst h
    exact w_sret (e_m rfl) (Or.inl rfl)
def n_law_income (p_law_n : Int) : Option Int :=
  (if (decide ((p_law_n % (6 : Int)) = (0 : Int))) = true then
  (some (0 : Int))
  else ((if (decide ((p_law_n % (6 : Int)) < (3 : Int))) = true then
  (some ((p_law_n / (6 : Int)) % (60 : Int)))
  else ((if (decide ((p_law_n % (6 : Int)) = (3 : Int))) = true then
  (some ((p_law_n / (6 : Int)) % (2000 : Int)))
  else ((if (decide ((p_law_n % (6 : Int)) = (4 : Int))) = true then
  (some ((p_law_n / (6 : Int)) % (10000000000000 : Int)))
  else (some ((p_law_n / (6 : Int)) % (1000000000000000000000000000000 : Int))))))))))
theorem l_law_income {p_law_n : Int} {r : Int} (h : n_law_income p_law_n = some r) : phi_law_income [(D.int p_law_n)] = some (.p (D.int r)) := by
  unfold n_law_income at h
  refine runF_wp rfl ?_
  show Wp (F_law_income [some (.p (D.int p_law_n)), none]) _
  unfold F_law_income
  refine w_seq (e1 := [some (.p (D.int p_law_n)), some (.p (D.int (p_law_n % (6 : Int))))]) (w_set2 (e_op (e_v rfl) e_c (g_modR rfl)) rfl rfl) ?_
  refine w_if (c_t (e_cmp (e_b rfl) e_c (u_p _) (u_p _) eqQ_i)) h (fun hb h => ?_) (fun hb h => ?_)
  · have h := Option.some.inj h
    subst h
    exact w_sret e_c (Or.inl rfl)
  · refine w_snx ?_
    refine w_if (c_t (e_cmp (e_b rfl) e_c (u_p _) (u_p _) rfl)) h (fun hb h => ?_) (fun hb h => ?_)
    · have h := Option.some.inj h
      subst h
      exact w_sret (e_op (e_op (e_v rfl) e_c (g_divR rfl)) e_c (g_modR rfl)) (Or.inl rfl)
    · refine w_snx ?_
      refine w_if (c_t (e_cmp (e_b rfl) e_c (u_p _) (u_p _) eqQ_i)) h (fun hb h => ?_) (fun hb h => ?_)
      · have h := Option.some.inj h
        subst h
        exact w_sret (e_op (e_op (e_v rfl) e_c (g_divR rfl)) e_c (g_modR rfl)) (Or.inl rfl)
      · refine w_snx ?_
        refine w_if (c_t (e_cmp (e_b rfl) e_c (u_p _) (u_p _) eqQ_i)) h (fun hb h => ?_) (fun hb h => ?_)
        · have h := Option.some.inj h
          subst h
          exact w_sret (e_op (e_op (e_v rfl) e_c (g_divR rfl)) (e_op e_c e_c ((g_powR rfl).trans (congrArg (fun z => some (D.int z)) (by decide)))) (g_modR rfl)) (Or.inl rfl)
        · refine w_snx ?_
          refine w_one ?_
          have h := Option.some.inj h
          subst h
          exact w_sret (e_op (e_op (e_v rfl) e_c (g_divR rfl)) (e_op e_c e_c ((g_powR rfl).trans (congrArg (fun z => some (D.int z)) (by decide)))) (g_modR rfl)) (Or.inl rfl)
def n_law_loss (p_law_n : Int) : Option Int :=
  (if (decide ((p_law_n % (6 : Int)) < (3 : Int))) = true then
  (some (0 : Int))
  else ((if (decide ((p_law_n % (6 : Int)) = (3 : Int))) = true then
  (some ((p_law_n / (6 : Int)) % (40 : Int)))
  else ((if (decide ((p_law_n % (6 : Int)) = (4 : Int))) = true then
  (some ((p_law_n / (6 : Int)) % (10000000000000 : Int)))
  else (some ((p_law_n / (6 : Int)) % (100000000000000000000000000000 : Int))))))))
theorem l_law_loss {p_law_n : Int} {r : Int} (h : n_law_loss p_law_n = some r) : phi_law_loss [(D.int p_law_n)] = some (.p (D.int r)) := by
  unfold n_law_loss at h
  refine runF_wp rfl ?_
  show Wp (F_law_loss [some (.p (D.int p_law_n)), none]) _
  unfold F_law_loss
  refine w_seq (e1 := [some (.p (D.int p_law_n)), some (.p (D.int (p_law_n % (6 : Int))))]) (w_set2 (e_op (e_v rfl) e_c (g_modR rfl)) rfl rfl) ?_
  refine w_if (c_t (e_cmp (e_b rfl) e_c (u_p _) (u_p _) rfl)) h (fun hb h => ?_) (fun hb h => ?_)
  · have h := Option.some.inj h
    subst h
    exact w_sret e_c (Or.inl rfl)
  · refine w_snx ?_
    refine w_if (c_t (e_cmp (e_b rfl) e_c (u_p _) (u_p _) eqQ_i)) h (fun hb h => ?_) (fun hb h => ?_)
    · have h := Option.some.inj h
      subst h
      exact w_sret (e_op (e_op (e_v rfl) e_c (g_divR rfl)) e_c (g_modR rfl)) (Or.inl rfl)
    · refine w_snx ?_
      refine w_if (c_t (e_cmp (e_b rfl) e_c (u_p _) (u_p _) eqQ_i)) h (fun hb h => ?_) (fun hb h => ?_)
      · have h := Option.some.inj h
        subst h
        exact w_sret (e_op (e_op (e_v rfl) e_c (g_divR rfl)) (e_op e_c e_c ((g_powR rfl).trans (congrArg (fun z => some (D.int z)) (by decide)))) (g_modR rfl)) (Or.inl rfl)
      · refine w_snx ?_
        refine w_one ?_
        have h := Option.some.inj h
        subst h
        exact w_sret (e_op (e_op (e_v rfl) e_c (g_divR rfl)) (e_op e_c e_c ((g_powR rfl).trans (congrArg (fun z => some (D.int z)) (by decide)))) (g_modR rfl)) (Or.inl rfl)
def n_law_days (p_law_script : List Int) (p_law_deal_here : List R3) : Option (List R4) :=
  (n_law_draw p_law_script (690 : Int)).bind fun x1 =>
  (rng1  (x1 % (7 : Int))).bind fun x2 =>
  (fold (fun (x4 : Int) (s3 : (List R4)) =>
  (rng1  (p_law_deal_here.length : Int)).bind fun x9 =>
  (compO (fun (x10 : Int) => (n_law_draw p_law_script (((700 : Int) + ((12 : Int) * x4)) + x10)).bind fun x11 =>
  (n_law_income x11).bind fun x12 =>
  some x12) x9).bind fun c13 =>
  (rng1  (p_law_deal_here.length : Int)).bind fun x14 =>
  (compO (fun (x15 : Int) => (n_law_draw p_law_script (((706 : Int) + ((12 : Int) * x4)) + x15)).bind fun x16 =>
  (n_law_loss x16).bind fun x17 =>
  some x17) x14).bind fun c18 =>
  (push s3 (c13, c18)).bind fun x19 =>
  some x19) x2 ([] : List R4)).bind fun s20 =>
  some s20
theorem l_law_days {p_law_script : List Int} {p_law_deal_here : List R3} {r : List R4} (h : n_law_days p_law_script p_law_deal_here = some r) : phi_law_days [(eLs D.int p_law_script), (eLs eR3 p_law_deal_here)] = some (oL eR4 r) := by
  unfold n_law_days at h
  refine runF_wp rfl ?_
  show Wp (F_law_days [some (.p (eLs D.int p_law_script)), some (.p (eLs eR3 p_law_deal_here)), none, none, none, none, none]) _
  unfold F_law_days
  refine w_seq (e1 := [some (.p (eLs D.int p_law_script)), some (.p (eLs eR3 p_law_deal_here)), some (oL eR4 ([] : List R4)), none, none, none, none]) (w_set2 (e_l a_n rfl rfl) rfl rfl) ?_
  refine bnd h fun x1 hx1 h => ?_
  refine bnd h fun x2 hx2 h => ?_
  refine bnd h fun s20 hs20 h => ?_
  refine w_for (P := (fun e => ∃ u5, ∃ u6, ∃ u7, ∃ u8, e = [some (.p (eLs D.int p_law_script)), some (.p (eLs eR3 p_law_deal_here)), some (oL eR4 s20), u5, u6, u7, u8])) (i_r1 (a_c (e_op (e_call (a_c (e_v rfl) (a_c e_c a_n)) rfl (l_law_draw hx1)) e_c (g_modR rfl)) a_n) hx2) (loop_fold (dd := D.int) (fun (s3 : (List R4)) e => ∃ u5, ∃ u6, ∃ u7, ∃ u8, e = [some (.p (eLs D.int p_law_script)), some (.p (eLs eR3 p_law_deal_here)), some (oL eR4 s3), u5, u6, u7, u8]) ?_ _ _ _ _ ⟨_, _, _, _, rfl⟩ hs20) (fun e he => ?_)
  · intro x4 s3 sN env hR h
    obtain ⟨u5, u6, u7, u8, rfl⟩ := hR
    refine ⟨_, rfl, ?_⟩
    unfold B_law_days_1
    refine bnd h fun x9 hx9 h => ?_
    refine bnd h fun c13 hc13 h => ?_
    refine w_seq (e1 := [some (.p (eLs D.int p_law_script)), some (.p (eLs eR3 p_law_deal_here)), some (oL eR4 s3), some (.p (D.int x4)), some (oL D.int c13), none, u8]) (w_set2 (e_compP (w := [some (.p (eLs D.int p_law_script)), some (.p (eLs eR3 p_law_deal_here)), some (oL eR4 s3), some (.p (D.int x4)), u6, none, u8]) (dd := D.int) (E := D.int) (i_r1 (a_c (e_b1 (e_b rfl) (g_lenL _ _)) a_n) hx9) rfl ((compO_F _ _).symm.trans hc13) (fun x10 => ⟨_, rfl, _, rfl, (fun hp => nomatch hp), fun y hp h => by
    refine bnd h fun x11 hx11 h => ?_
    refine bnd h fun x12 hx12 h => ?_
    have h := Option.some.inj h; subst h
    exact ⟨_, (e_call (a_c (e_call (a_c (e_v rfl) (a_c (e_op (e_op e_c (e_op e_c (e_v rfl) (g_mulL rfl)) rfl) (e_v rfl) rfl) a_n)) rfl (l_law_draw hx11)) a_n) rfl (l_law_income hx12)), rfl⟩⟩)) rfl rfl) ?_
    refine bnd h fun x14 hx14 h => ?_
    refine bnd h fun c18 hc18 h => ?_
    refine w_seq (e1 := [some (.p (eLs D.int p_law_script)), some (.p (eLs eR3 p_law_deal_here)), some (oL eR4 s3), some (.p (D.int x4)), some (oL D.int c13), none, some (oL D.int c18)]) (w_set2 (e_compP (w := [some (.p (eLs D.int p_law_script)), some (.p (eLs eR3 p_law_deal_here)), some (oL eR4 s3), some (.p (D.int x4)), some (oL D.int c13), none, u8]) (dd := D.int) (E := D.int) (i_r1 (a_c (e_b1 (e_b rfl) (g_lenL _ _)) a_n) hx14) rfl ((compO_F _ _).symm.trans hc18) (fun x15 => ⟨_, rfl, _, rfl, (fun hp => nomatch hp), fun y hp h => by
    refine bnd h fun x16 hx16 h => ?_
    refine bnd h fun x17 hx17 h => ?_
    have h := Option.some.inj h; subst h
    exact ⟨_, (e_call (a_c (e_call (a_c (e_v rfl) (a_c (e_op (e_op e_c (e_op e_c (e_v rfl) (g_mulL rfl)) rfl) (e_v rfl) rfl) a_n)) rfl (l_law_draw hx16)) a_n) rfl (l_law_loss hx17)), rfl⟩⟩)) rfl rfl) ?_
    refine w_one ?_
    refine bnd h fun x19 hx19 h => ?_
    refine w_seq (e1 := [some (.p (eLs D.int p_law_script)), some (.p (eLs eR3 p_law_deal_here)), some (oL eR4 x19), some (.p (D.int x4)), some (.p (eLs D.int c13)), none, some (.p (eLs D.int c18))]) (w_appL2 (dd := eR4) rfl (e_fz (d := (eR4 (c13, c18))) (e_t (a_c (e_vl (d := (eLs D.int) c13) rfl (oL_toD _)) (a_c (e_vl (d := (eLs D.int) c18) rfl (oL_toD _)) a_n)) rfl (show _ = ((.p (eR4 (c13, c18))) : T) from rfl)) (u_p _)) rfl hx19 rfl) ?_
    have h := Option.some.inj h
    subst h
    exact w_nx ⟨Or.inl rfl, ⟨_, _, _, _, rfl⟩⟩
  · obtain ⟨u5, u6, u7, u8, rfl⟩ := he
    refine w_one ?_
    have h := Option.some.inj h
    subst h
    exact w_sret (e_m rfl) (Or.inl rfl)
def n_law_more (p_law_script : List Int) (p_law_deal_here : List R3) (p_law_days_here : List R4) : Option (List TISI) :=
  (n_law_draw p_law_script (850 : Int)).bind fun x1 =>
  (rng1  (x1 % (8 : Int))).bind fun x2 =>
  (fold (fun (x4 : Int) (s3 : (List TISI)) =>
  (n_law_draw p_law_script ((851 : Int) + x4)).bind fun x10 =>
  (modN x10 (p_law_deal_here.length : Int)).bind fun x11 =>
  (atI p_law_deal_here x11).bind fun x12 =>
  ((if (decide (((x10 / (6 : Int)) % (8 : Int)) = (0 : Int))) = true then
  ((n_law_draw p_law_script (0 : Int)).bind fun x13 =>
  (n_law_name (x13 % (1000000000000 : Int)) (601 : Int)).bind fun x14 =>
  some x14)
  else (some x12.1)) : Option Nm).bind fun s15 =>
  (modN (x10 / (48 : Int)) ((p_law_days_here.length : Int) + (3 : Int))).bind fun x16 =>
  (atI [((x10 / (10000 : Int)) % (40 : Int)), ((x10 / (10000 : Int)) % (10000000000000000000000000000 : Int)), ((x10 / (10000 : Int)) % (10000000000000 : Int))] ((x10 / (1000 : Int)) % (3 : Int))).bind fun x17 =>
  (push s3 (x16, s15, x17)).bind fun x18 =>
  some x18) x2 ([] : List TISI)).bind fun s19 =>
  some s19
theorem l_law_more {p_law_script : List Int} {p_law_deal_here : List R3} {p_law_days_here : List R4} {r : List TISI} (h : n_law_more p_law_script p_law_deal_here p_law_days_here = some r) : phi_law_more [(eLs D.int p_law_script), (eLs eR3 p_law_deal_here), (eLs eR4 p_law_days_here)] = some (oL eTISI r) := by
  unfold n_law_more at h
  refine runF_wp rfl ?_
  show Wp (F_law_more [some (.p (eLs D.int p_law_script)), some (.p (eLs eR3 p_law_deal_here)), some (.p (eLs eR4 p_law_days_here)), none, none, none, none, none, none]) _
  unfold F_law_more
  refine w_seq (e1 := [some (.p (eLs D.int p_law_script)), some (.p (eLs eR3 p_law_deal_here)), some (.p (eLs eR4 p_law_days_here)), some (oL eTISI ([] : List TISI)), none, none, none, none, none]) (w_set2 (e_l a_n rfl rfl) rfl rfl) ?_
  refine bnd h fun x1 hx1 h => ?_
  refine bnd h fun x2 hx2 h => ?_
  refine bnd h fun s19 hs19 h => ?_
  refine w_for (P := (fun e => ∃ u5, ∃ u6, ∃ u7, ∃ u8, ∃ u9, e = [some (.p (eLs D.int p_law_script)), some (.p (eLs eR3 p_law_deal_here)), some (.p (eLs eR4 p_law_days_here)), some (oL eTISI s19), u5, u6, u7, u8, u9])) (i_r1 (a_c (e_op (e_call (a_c (e_v rfl) (a_c e_c a_n)) rfl (l_law_draw hx1)) e_c (g_modR rfl)) a_n) hx2) (loop_fold (dd := D.int) (fun (s3 : (List TISI)) e => ∃ u5, ∃ u6, ∃ u7, ∃ u8, ∃ u9, e = [some (.p (eLs D.int p_law_script)), some (.p (eLs eR3 p_law_deal_here)), some (.p (eLs eR4 p_law_days_here)), some (oL eTISI s3), u5, u6, u7, u8, u9]) ?_ _ _ _ _ ⟨_, _, _, _, _, rfl⟩ hs19) (fun e he => ?_)
  · intro x4 s3 sN env hR h
    obtain ⟨u5, u6, u7, u8, u9, rfl⟩ := hR
    refine ⟨_, rfl, ?_⟩
    unfold B_law_more_1
    refine bnd h fun x10 hx10 h => ?_
    refine w_seq (e1 := [some (.p (eLs D.int p_law_script)), some (.p (eLs eR3 p_law_deal_here)), some (.p (eLs eR4 p_law_days_here)), some (oL eTISI s3), some (.p (D.int x4)), some (.p (D.int x10)), u7, u8, u9]) (w_set2 (e_fz (d := (D.int x10)) (e_call (a_c (e_v rfl) (a_c (e_op e_c (e_v rfl) rfl) a_n)) rfl (l_law_draw hx10)) (u_p _)) rfl rfl) ?_
    refine bnd h fun x11 hx11 h => ?_
    refine bnd h fun x12 hx12 h => ?_
    refine w_seq (e1 := [some (.p (eLs D.int p_law_script)), some (.p (eLs eR3 p_law_deal_here)), some (.p (eLs eR4 p_law_days_here)), some (oL eTISI s3), some (.p (D.int x4)), some (.p (D.int x10)), some (.p (eS x12.1)), u8, u9]) (w_set2 (e_w (e_ix (e_ix (e_b rfl) (e_op (e_v rfl) (e_b1 (e_b rfl) (g_lenL _ _)) (g_mod hx11)) (x_l hx12)) e_c (x_t 0 rfl))) rfl rfl) ?_
    refine bnd h fun s15 hs15 h => ?_
    refine w_join (P := (fun e => e = [some (.p (eLs D.int p_law_script)), some (.p (eLs eR3 p_law_deal_here)), some (.p (eLs eR4 p_law_days_here)), some (oL eTISI s3), some (.p (D.int x4)), some (.p (D.int x10)), some (.p (eS s15)), u8, u9])) ?_ (fun e he => ?_)
    · have h := hs15
      refine w_one ?_
      refine w_if (c_t (e_cmp (e_op (e_op (e_v rfl) e_c (g_divR rfl)) e_c (g_modR rfl)) e_c (u_p _) (u_p _) eqQ_i)) h (fun hb h => ?_) (fun hb h => ?_)
      · refine w_un ?_
        refine w_one ?_
        refine bnd h fun x13 hx13 h => ?_
        refine bnd h fun x14 hx14 h => ?_
        refine w_seq (e1 := [some (.p (eLs D.int p_law_script)), some (.p (eLs eR3 p_law_deal_here)), some (.p (eLs eR4 p_law_days_here)), some (oL eTISI s3), some (.p (D.int x4)), some (.p (D.int x10)), some (.p (eS x14)), u8, u9]) (w_set2 (e_call (a_c (e_op (e_call (a_c (e_v rfl) (a_c e_c a_n)) rfl (l_law_draw hx13)) (e_op e_c e_c ((g_powR rfl).trans (congrArg (fun z => some (D.int z)) (by decide)))) (g_modR rfl)) (a_c e_c a_n)) rfl (l_law_name hx14)) rfl rfl) ?_
        have h := Option.some.inj h
        subst h
        exact w_nx ⟨rfl, rfl⟩
      · refine w_un ?_
        have h := Option.some.inj h
        subst h
        exact w_nx ⟨rfl, rfl⟩
    · subst he
      refine bnd h fun x16 hx16 h => ?_
      refine w_seq (e1 := [some (.p (eLs D.int p_law_script)), some (.p (eLs eR3 p_law_deal_here)), some (.p (eLs eR4 p_law_days_here)), some (oL eTISI s3), some (.p (D.int x4)), some (.p (D.int x10)), some (.p (eS s15)), some (.p (D.int x16)), u9]) (w_set2 (e_op (e_op (e_v rfl) e_c (g_divR rfl)) (e_op (e_b1 (e_b rfl) (g_lenL _ _)) e_c rfl) (g_mod hx16)) rfl rfl) ?_
      refine bnd h fun x17 hx17 h => ?_
      refine w_seq (e1 := [some (.p (eLs D.int p_law_script)), some (.p (eLs eR3 p_law_deal_here)), some (.p (eLs eR4 p_law_days_here)), some (oL eTISI s3), some (.p (D.int x4)), some (.p (D.int x10)), some (.p (eS s15)), some (.p (D.int x16)), some (.p (D.int x17))]) (w_set2 (e_w (e_ix (e_l (a_c (e_op (e_op (e_v rfl) e_c (g_divR rfl)) e_c (g_modR rfl)) (a_c (e_op (e_op (e_v rfl) e_c (g_divR rfl)) (e_op e_c e_c ((g_powR rfl).trans (congrArg (fun z => some (D.int z)) (by decide)))) (g_modR rfl)) (a_c (e_op (e_op (e_v rfl) e_c (g_divR rfl)) (e_op e_c e_c ((g_powR rfl).trans (congrArg (fun z => some (D.int z)) (by decide)))) (g_modR rfl)) a_n))) rfl (show _ = ((oL D.int [((x10 / (10000 : Int)) % (40 : Int)), ((x10 / (10000 : Int)) % (10000000000000000000000000000 : Int)), ((x10 / (10000 : Int)) % (10000000000000 : Int))]) : T) from rfl)) (e_op (e_op (e_v rfl) e_c (g_divR rfl)) e_c (g_modR rfl)) (x_o hx17))) rfl rfl) ?_
      refine w_one ?_
      refine bnd h fun x18 hx18 h => ?_
      refine w_seq (e1 := [some (.p (eLs D.int p_law_script)), some (.p (eLs eR3 p_law_deal_here)), some (.p (eLs eR4 p_law_days_here)), some (oL eTISI x18), some (.p (D.int x4)), some (.p (D.int x10)), some (.p (eS s15)), some (.p (D.int x16)), some (.p (D.int x17))]) (w_appL2 (dd := eTISI) rfl (e_fz (d := (eTISI (x16, s15, x17))) (e_t (a_c (e_v rfl) (a_c (e_v rfl) (a_c (e_v rfl) a_n))) rfl (show _ = ((.p (eTISI (x16, s15, x17))) : T) from rfl)) (u_p _)) rfl hx18 rfl) ?_
      have h := Option.some.inj h
      subst h
      exact w_nx ⟨Or.inl rfl, ⟨_, _, _, _, _, rfl⟩⟩
  · obtain ⟨u5, u6, u7, u8, u9, rfl⟩ := he
    refine w_one ?_
    have h := Option.some.inj h
    subst h
    exact w_sret (e_m rfl) (Or.inl rfl)
def n_added_losses (p_deal : List R3) (p_days : List R4) (p_rows : List TISI) : Option (List R4) :=
  (fold (fun (x2 : R5) (s1 : (List (Nm × Int))) =>
  (putK s1 x2.2.1 x2.1).bind fun x5 =>
  some x5) (enumN 0 p_deal) ([] : List (Nm × Int))).bind fun s6 =>
  (compT (fun (x7 : R4) => (x7.1, x7.2)) p_days).bind fun c8 =>
  (fold (fun (x10 : TISI) (s9 : (List R4)) =>
  (if (((lkN s6 x10.2.1).isSome) && (bLe (1 : Int) x10.1 && bLe x10.1 (s9.length : Int))) = true then
  ((ixN s9.length (x10.1 - (1 : Int))).bind fun x14 =>
  (s9[x14]?).bind fun x15 =>
  (lkN s6 x10.2.1).bind fun x16 =>
  (addI x15.2 x16 x10.2.2).bind fun x17 =>
  (setN s9 x14 ((x15.1, x17))).bind fun x18 =>
  some x18)
  else (some s9))) p_rows c8).bind fun s19 =>
  some s19
theorem l_added_losses {p_deal : List R3} {p_days : List R4} {p_rows : List TISI} {r : List R4} (h : n_added_losses p_deal p_days p_rows = some r) : phi_added_losses [(eLs eR3 p_deal), (eLs eR4 p_days), (eLs eTISI p_rows)] = some (oE (fun v => (.tup [(oL D.int v.1), (oL D.int v.2)])) r) := by
  unfold n_added_losses at h
  refine runF_wp rfl ?_
  show Wp (F_added_losses [some (.p (eLs eR3 p_deal)), some (.p (eLs eR4 p_days)), some (.p (eLs eTISI p_rows)), none, none, none, none, none, none, none, none, none]) _
  unfold F_added_losses
  refine w_seq (e1 := [some (.p (eLs eR3 p_deal)), some (.p (eLs eR4 p_days)), some (.p (eLs eTISI p_rows)), some (oK kS D.int ([] : List (Nm × Int))), none, none, none, none, none, none, none, none]) (w_set2 (show _ = some ((oK kS D.int ([] : List (Nm × Int))), _) from rfl) rfl rfl) ?_
  refine bnd h fun s6 hs6 h => ?_
  refine w_for (P := (fun e => ∃ u3, ∃ u4, e = [some (.p (eLs eR3 p_deal)), some (.p (eLs eR4 p_days)), some (.p (eLs eTISI p_rows)), some (oK kS D.int s6), u3, u4, none, none, none, none, none, none])) (i_en (a_c (e_v rfl) a_n)) (loop_fold (dd := eR5) (fun (s1 : (List (Nm × Int))) e => ∃ u3, ∃ u4, e = [some (.p (eLs eR3 p_deal)), some (.p (eLs eR4 p_days)), some (.p (eLs eTISI p_rows)), some (oK kS D.int s1), u3, u4, none, none, none, none, none, none]) ?_ _ _ _ _ ⟨_, _, rfl⟩ hs6) (fun e he => ?_)
  · intro x2 s1 sN env hR h
    obtain ⟨u3, u4, rfl⟩ := hR
    refine ⟨_, rfl, ?_⟩
    unfold B_added_losses_1
    refine w_one ?_
    refine bnd h fun x5 hx5 h => ?_
    refine w_seq (e1 := [some (.p (eLs eR3 p_deal)), some (.p (eLs eR4 p_days)), some (.p (eLs eTISI p_rows)), some (oK kS D.int x5), some (.p (D.int x2.1)), some (.p (eR3 x2.2)), none, none, none, none, none, none]) (w_putD2 (dd := D.int) kS_inj (e_v rfl) rfl (e_w (e_ix (e_b rfl) e_c (x_t 0 rfl))) (keyS _) rfl hx5 rfl) ?_
    have h := Option.some.inj h
    subst h
    exact w_nx ⟨Or.inl rfl, ⟨_, _, rfl⟩⟩
  · obtain ⟨u3, u4, rfl⟩ := he
    refine bnd h fun c8 hc8 h => ?_
    refine w_seq (e1 := [some (.p (eLs eR3 p_deal)), some (.p (eLs eR4 p_days)), some (.p (eLs eTISI p_rows)), some (oK kS D.int s6), u3, u4, some (oE (fun v => (.tup [(oL D.int v.1), (oL D.int v.2)])) c8), none, none, none, none, none]) (w_set2 (e_comp (w := [some (.p (eLs eR3 p_deal)), some (.p (eLs eR4 p_days)), some (.p (eLs eTISI p_rows)), some (oK kS D.int s6), u3, u4, none, none, none, none, none, none]) (dd := eR4) (E := (fun v => (.tup [(oL D.int v.1), (oL D.int v.2)]))) (i_l (e_v rfl)) rfl ((compT_F _ _).symm.trans hc8) (fun x7 => ⟨_, rfl, _, rfl, (fun hp => nomatch hp), fun y hp h => by
    have h := Option.some.inj h; subst h
    exact ⟨_, (e_t (a_c (e_list (e_b rfl) (it_p _ _) rfl) (a_c (e_list (e_b rfl) (it_p _ _) rfl) a_n)) rfl (show _ = ((.tup [(oL D.int ((x7.1, x7.2).1)), (oL D.int ((x7.1, x7.2).2))]) : T) from rfl)), rfl⟩⟩)) rfl rfl) ?_
    refine bnd h fun s19 hs19 h => ?_
    refine w_for (P := (fun e => ∃ u11, ∃ u12, ∃ u13, e = [some (.p (eLs eR3 p_deal)), some (.p (eLs eR4 p_days)), some (.p (eLs eTISI p_rows)), some (oK kS D.int s6), u3, u4, some (oE (fun v => (.tup [(oL D.int v.1), (oL D.int v.2)])) s19), none, none, u11, u12, u13])) (i_l (e_v rfl)) (loop_fold (dd := eTISI) (fun (s9 : (List R4)) e => ∃ u11, ∃ u12, ∃ u13, e = [some (.p (eLs eR3 p_deal)), some (.p (eLs eR4 p_days)), some (.p (eLs eTISI p_rows)), some (oK kS D.int s6), u3, u4, some (oE (fun v => (.tup [(oL D.int v.1), (oL D.int v.2)])) s9), none, none, u11, u12, u13]) ?_ _ _ _ _ ⟨_, _, _, rfl⟩ hs19) (fun e he => ?_)
    · intro x10 s9 sN env hR h
      obtain ⟨u11, u12, u13, rfl⟩ := hR
      refine ⟨_, rfl, ?_⟩
      unfold B_added_losses_2
      refine w_one ?_
      refine w_if (c_and (c_t (e_din kS_inj (e_b rfl) (e_b rfl) (dic_o _) (keyS _))) (c_t (e_chain e_c (e_v rfl) (e_b1 (e_b rfl) (g_lenE _ _))))) h (fun hb h => ?_) (fun hb h => ?_)
      · refine bnd h fun x14 hx14 h => ?_
        refine bnd h fun x15 hx15 h => ?_
        refine bnd h fun x16 hx16 h => ?_
        refine bnd h fun x17 hx17 h => ?_
        refine bnd h fun x18 hx18 h => ?_
        refine w_seq (e1 := [some (.p (eLs eR3 p_deal)), some (.p (eLs eR4 p_days)), some (.p (eLs eTISI p_rows)), some (oK kS D.int s6), u3, u4, some (oE (fun v => (.tup [(oL D.int v.1), (oL D.int v.2)])) x18), none, none, some (.p (D.int x10.1)), some (.p (eS x10.2.1)), some (.p (D.int x10.2.2))]) (w_augE (E := (fun v => (.tup [(oL D.int v.1), (oL D.int v.2)]))) (x := x15) (x' := (x15.1, x17)) (us := [(oL D.int x15.1), (oL D.int x15.2)]) (e' := [some (.p (eLs eR3 p_deal)), some (.p (eLs eR4 p_days)), some (.p (eLs eTISI p_rows)), some (oK kS D.int s6), u3, u4, some (oE (fun v => (.tup [(oL D.int v.1), (oL D.int v.2)])) x18), none, none, some (.p (D.int x10.1)), some (.p (eS x10.2.1)), some (.p (D.int x10.2.2))]) (p_itE (E := (fun v => (.tup [(oL D.int v.1), (oL D.int v.2)]))) (us := [(oL D.int x15.1), (oL D.int x15.2)]) (p_ixE (E := (fun v => (.tup [(oL D.int v.1), (oL D.int v.2)]))) (pl_nm rfl) (e_op (e_v rfl) e_c rfl) rfl hx14 hx15) e_c rfl hx15 rfl rfl rfl) (e_dix kS_inj (e_b rfl) (dic_o _) (e_v rfl) (keyS _) hx16) rfl hx15 rfl rfl (e_v rfl) rfl hx17 rfl hx18 rfl) ?_
        have h := Option.some.inj h
        subst h
        exact w_nx ⟨Or.inl rfl, ⟨_, _, _, rfl⟩⟩
      · refine w_snx ?_
        have h := Option.some.inj h
        subst h
        exact w_nx ⟨Or.inl rfl, ⟨_, _, _, rfl⟩⟩
    · obtain ⟨u11, u12, u13, rfl⟩ := he
      refine w_one ?_
      have h := Option.some.inj h
      subst h
      exact w_sret (e_m rfl) (Or.inl rfl)
def n_law_due (p_law_deal_here : List R3) (p_law_days_here : List R4) (p_law_rows : List TISI) : Option (List R4) :=
  (rng1  (p_law_days_here.length : Int)).bind fun x1 =>
  (fold (fun (x3 : Int) (s2 : (List R4)) =>
  (rng1  (p_law_deal_here.length : Int)).bind fun x9 =>
  (fold (fun (x11 : Int) (s10 : (List Int)) =>
  (compG (fun (x15 : TISI) =>
  (if (decide (x15.1 = (x3 + (1 : Int)))) = true then ((atI p_law_deal_here x11).bind fun x16 =>
  some (decide (x15.2.1 = x16.1))) else some false).bind fun x17 =>
  (if x17 = true then (some (some x15.2.2)) else some none)) p_law_rows).bind fun c18 =>
  (atI p_law_days_here x3).bind fun x19 =>
  (atI x19.2 x11).bind fun x20 =>
  (push s10 (x20 + (c18).sum)).bind fun x21 =>
  some x21) x9 ([] : List Int)).bind fun s22 =>
  (atI p_law_days_here x3).bind fun x23 =>
  (push s2 (x23.1, s22)).bind fun x24 =>
  some x24) x1 ([] : List R4)).bind fun s25 =>
  some s25
theorem l_law_due {p_law_deal_here : List R3} {p_law_days_here : List R4} {p_law_rows : List TISI} {r : List R4} (h : n_law_due p_law_deal_here p_law_days_here p_law_rows = some r) : phi_law_due [(eLs eR3 p_law_deal_here), (eLs eR4 p_law_days_here), (eLs eTISI p_law_rows)] = some (oL eR4 r) := by
  unfold n_law_due at h
  refine runF_wp rfl ?_
  show Wp (F_law_due [some (.p (eLs eR3 p_law_deal_here)), some (.p (eLs eR4 p_law_days_here)), some (.p (eLs eTISI p_law_rows)), none, none, none, none, none, none]) _
  unfold F_law_due
  refine w_seq (e1 := [some (.p (eLs eR3 p_law_deal_here)), some (.p (eLs eR4 p_law_days_here)), some (.p (eLs eTISI p_law_rows)), some (oL eR4 ([] : List R4)), none, none, none, none, none]) (w_set2 (e_l a_n rfl rfl) rfl rfl) ?_
  refine bnd h fun x1 hx1 h => ?_
  refine bnd h fun s25 hs25 h => ?_
  refine w_for (P := (fun e => ∃ u4, ∃ u5, ∃ u6, ∃ u7, ∃ u8, e = [some (.p (eLs eR3 p_law_deal_here)), some (.p (eLs eR4 p_law_days_here)), some (.p (eLs eTISI p_law_rows)), some (oL eR4 s25), u4, u5, u6, u7, u8])) (i_r1 (a_c (e_b1 (e_b rfl) (g_lenL _ _)) a_n) hx1) (loop_fold (dd := D.int) (fun (s2 : (List R4)) e => ∃ u4, ∃ u5, ∃ u6, ∃ u7, ∃ u8, e = [some (.p (eLs eR3 p_law_deal_here)), some (.p (eLs eR4 p_law_days_here)), some (.p (eLs eTISI p_law_rows)), some (oL eR4 s2), u4, u5, u6, u7, u8]) ?_ _ _ _ _ ⟨_, _, _, _, _, rfl⟩ hs25) (fun e he => ?_)
  · intro x3 s2 sN env hR h
    obtain ⟨u4, u5, u6, u7, u8, rfl⟩ := hR
    refine ⟨_, rfl, ?_⟩
    unfold B_law_due_2
    refine w_seq (e1 := [some (.p (eLs eR3 p_law_deal_here)), some (.p (eLs eR4 p_law_days_here)), some (.p (eLs eTISI p_law_rows)), some (oL eR4 s2), some (.p (D.int x3)), some (oL D.int ([] : List Int)), u6, u7, u8]) (w_set2 (e_l a_n rfl rfl) rfl rfl) ?_
    refine bnd h fun x9 hx9 h => ?_
    refine bnd h fun s22 hs22 h => ?_
    refine w_for (P := (fun e => ∃ u12, ∃ u13, ∃ u14, e = [some (.p (eLs eR3 p_law_deal_here)), some (.p (eLs eR4 p_law_days_here)), some (.p (eLs eTISI p_law_rows)), some (oL eR4 s2), some (.p (D.int x3)), some (oL D.int s22), u12, u13, u14])) (i_r1 (a_c (e_b1 (e_b rfl) (g_lenL _ _)) a_n) hx9) (loop_fold (dd := D.int) (fun (s10 : (List Int)) e => ∃ u12, ∃ u13, ∃ u14, e = [some (.p (eLs eR3 p_law_deal_here)), some (.p (eLs eR4 p_law_days_here)), some (.p (eLs eTISI p_law_rows)), some (oL eR4 s2), some (.p (D.int x3)), some (oL D.int s10), u12, u13, u14]) ?_ _ _ _ _ ⟨_, _, _, rfl⟩ hs22) (fun e he => ?_)
    · intro x11 s10 sN env hR h
      obtain ⟨u12, u13, u14, rfl⟩ := hR
      refine ⟨_, rfl, ?_⟩
      unfold B_law_due_1
      refine bnd h fun c18 hc18 h => ?_
      refine w_seq (e1 := [some (.p (eLs eR3 p_law_deal_here)), some (.p (eLs eR4 p_law_days_here)), some (.p (eLs eTISI p_law_rows)), some (oL eR4 s2), some (.p (D.int x3)), some (oL D.int s10), some (.p (D.int x11)), some (oL D.int c18), none]) (w_set2 (e_compGP (w := [some (.p (eLs eR3 p_law_deal_here)), some (.p (eLs eR4 p_law_days_here)), some (.p (eLs eTISI p_law_rows)), some (oL eR4 s2), some (.p (D.int x3)), some (oL D.int s10), some (.p (D.int x11)), u13, none]) (dd := eTISI) (E := D.int) (i_l (e_v rfl)) rfl hc18 (fun x15 o h => by
    refine bnd h fun x17 hx17 h => ?_
    refine ⟨_, rfl, _, _, (c_andO (c_t (e_cmp (e_ix (e_b rfl) e_c (x_t 0 rfl)) (e_op (e_v rfl) e_c rfl) (u_p _) (u_p _) eqQ_i)) hx17 (fun _ h => by
    refine bnd h fun x16 hx16 h => ?_
    have h := Option.some.inj h; subst h
    exact (c_t (e_cmp (e_ix (e_b rfl) e_c (x_t 1 rfl)) (e_ix (e_ix (e_b rfl) (e_v rfl) (x_l hx16)) e_c (x_t 0 rfl)) (u_p _) (u_p _) eqQ_g)))), ?_⟩
    refine ifs h (fun hb h => Or.inr ?_) (fun hb h => Or.inl ?_)
    · refine ⟨hb, ?_⟩
      have h := Option.some.inj h; subst h
      exact ⟨_, rfl, _, (e_w (e_ix (e_b rfl) e_c (x_t 2 rfl))), rfl⟩
    · exact ⟨hb, (Option.some.inj h).symm, rfl⟩)) rfl rfl) ?_
      refine w_one ?_
      refine bnd h fun x19 hx19 h => ?_
      refine bnd h fun x20 hx20 h => ?_
      refine bnd h fun x21 hx21 h => ?_
      refine w_seq (e1 := [some (.p (eLs eR3 p_law_deal_here)), some (.p (eLs eR4 p_law_days_here)), some (.p (eLs eTISI p_law_rows)), some (oL eR4 s2), some (.p (D.int x3)), some (oL D.int x21), some (.p (D.int x11)), some (oL D.int c18), none]) (w_appL2 (dd := D.int) rfl (e_op (e_w (e_ix (e_ix (e_ix (e_b rfl) (e_v rfl) (x_l hx19)) e_c (x_t 1 rfl)) (e_v rfl) (x_l hx20))) (e_b1 (e_b rfl) (g_sumO _)) rfl) rfl hx21 rfl) ?_
      have h := Option.some.inj h
      subst h
      exact w_nx ⟨Or.inl rfl, ⟨_, _, _, rfl⟩⟩
    · obtain ⟨u12, u13, u14, rfl⟩ := he
      refine w_one ?_
      refine bnd h fun x23 hx23 h => ?_
      refine bnd h fun x24 hx24 h => ?_
      refine w_seq (e1 := [some (.p (eLs eR3 p_law_deal_here)), some (.p (eLs eR4 p_law_days_here)), some (.p (eLs eTISI p_law_rows)), some (oL eR4 x24), some (.p (D.int x3)), some (.p (eLs D.int s22)), u12, u13, u14]) (w_appL2 (dd := eR4) rfl (e_fz (d := (eR4 (x23.1, s22))) (e_t (a_c (e_list (e_ix (e_ix (e_b rfl) (e_v rfl) (x_l hx23)) e_c (x_t 0 rfl)) (it_p _ _) rfl) (a_c (e_vl (d := (eLs D.int) s22) rfl (oL_toD _)) a_n)) rfl (show _ = ((.tup [(oL D.int ((x23.1, s22).1)), (.p (eLs D.int ((x23.1, s22).2)))]) : T) from rfl)) (u_t (u_c (oL_toD _) (u_c (u_p _) u_n)))) rfl hx24 rfl) ?_
      have h := Option.some.inj h
      subst h
      exact w_nx ⟨Or.inl rfl, ⟨_, _, _, _, _, rfl⟩⟩
  · obtain ⟨u4, u5, u6, u7, u8, rfl⟩ := he
    refine w_one ?_
    have h := Option.some.inj h
    subst h
    exact w_sret (e_m rfl) (Or.inl rfl)
def n_law (p_law_script : List Int) : Option Bool :=
  (n_law_deal p_law_script).bind fun x1 =>
  (n_law_days p_law_script x1).bind fun x2 =>
  (n_law_more p_law_script x1 x2).bind fun x3 =>
  (n_law_days p_law_script x1).bind fun x4 =>
  (n_added_losses x1 x4 x3).bind fun x5 =>
  (n_law_due x1 x2 x3).bind fun x6 =>
  (opB (phi_law_same 8 [(eLs eR4 x5), (eLs eR4 x6)])).bind fun x7 =>
  (if (!x7) = true then some true else ((eqQ (eLs eTISI x3) (eLs eTISI x3)).bind fun x8 =>
  (if (!x8) = true then some true else ((n_law_deal p_law_script).bind fun x9 =>
  (opB (phi_law_same 8 [(eLs eR3 x1), (eLs eR3 x9)])).bind fun x10 =>
  some (!x10))).bind fun x11 =>
  some x11)).bind fun x12 =>
  (if x12 = true then
  (some false)
  else ((mapO (fun (x13 : R4) =>
  (push x13.1 (1 : Int)).bind fun x15 =>
  (push x13.2 (2 : Int)).bind fun x16 =>
  some (x15, x16)) x5).bind fun s14 =>
  (push (s14.map eR4) ((eLs eR4) (cutA s14 none (some (1 : Int))))).bind fun x17 =>
  (opB (phi_law_same 8 [(eLs eR4 x4), (eLs eR4 x2)])).bind fun x18 =>
  (if x18 = true then ((n_added_losses x1 x4 x3).bind fun x19 =>
  (opB (phi_law_same 8 [(eLs eR4 x19), (eLs eR4 x6)])).bind fun x20 =>
  some x20) else some false).bind fun x21 =>
  some x21))
theorem l_law {p_law_script : List Int} {r : Bool} (h : n_law p_law_script = some r) : phi_law [(eLs D.int p_law_script)] = some (.p (D.bl r)) := by
  unfold n_law at h
  refine runF_wp rfl ?_
  show Wp (F_law [some (.p (eLs D.int p_law_script)), none, none, none, none, none, none, none]) _
  unfold F_law
  refine bnd h fun x1 hx1 h => ?_
  refine w_seq (e1 := [some (.p (eLs D.int p_law_script)), some (.p (eLs eR3 x1)), none, none, none, none, none, none]) (w_set2 (e_fz (d := (eLs eR3 x1)) (e_call (a_c (e_v rfl) a_n) rfl (l_law_deal hx1)) (oL_toD (e := eR3) x1)) rfl rfl) ?_
  refine bnd h fun x2 hx2 h => ?_
  refine w_seq (e1 := [some (.p (eLs D.int p_law_script)), some (.p (eLs eR3 x1)), some (.p (eLs eR4 x2)), none, none, none, none, none]) (w_set2 (e_fz (d := (eLs eR4 x2)) (e_call (a_c (e_v rfl) (a_c (e_v rfl) a_n)) rfl (l_law_days hx2)) (oL_toD (e := eR4) x2)) rfl rfl) ?_
  refine bnd h fun x3 hx3 h => ?_
  refine w_seq (e1 := [some (.p (eLs D.int p_law_script)), some (.p (eLs eR3 x1)), some (.p (eLs eR4 x2)), some (.p (eLs eTISI x3)), none, none, none, none]) (w_set2 (e_fz (d := (eLs eTISI x3)) (e_call (a_c (e_v rfl) (a_c (e_v rfl) (a_c (e_v rfl) a_n))) rfl (l_law_more hx3)) (oL_toD (e := eTISI) x3)) rfl rfl) ?_
  refine bnd h fun x4 hx4 h => ?_
  refine w_seq (e1 := [some (.p (eLs D.int p_law_script)), some (.p (eLs eR3 x1)), some (.p (eLs eR4 x2)), some (.p (eLs eTISI x3)), some (.p (D.lst [(eLs eTISI x3), (eLs eR4 x4)])), none, none, none]) (w_set2 (e_fz (d := (D.lst [(eLs eTISI x3), (eLs eR4 x4)])) (e_l (a_c (e_list (e_b rfl) (it_p _ _) rfl) (a_c (e_call (a_c (e_v rfl) (a_c (e_v rfl) a_n)) rfl (l_law_days hx4)) a_n)) rfl (show _ = ((T.lst [(oL eTISI x3), (oL eR4 x4)]) : T) from rfl)) (u_l (u_c (oL_toD (e := eTISI) x3) (u_c (oL_toD (e := eR4) x4) u_n)))) rfl rfl) ?_
  refine bnd h fun x5 hx5 h => ?_
  refine w_seq (e1 := [some (.p (eLs D.int p_law_script)), some (.p (eLs eR3 x1)), some (.p (eLs eR4 x2)), some (.p (eLs eTISI x3)), some (.p (D.lst [(eLs eTISI x3), (eLs eR4 x4)])), some (oE (fun v => (.tup [(oL D.int v.1), (oL D.int v.2)])) x5), none, none]) (w_set2 (e_call (a_c (e_v rfl) (a_c (e_w (e_ix (u := (.p (eLs eR4 x4))) (e_b rfl) e_c rfl)) (a_c (e_w (e_ix (u := (.p (eLs eTISI x3))) (e_b rfl) e_c rfl)) a_n))) rfl (l_added_losses hx5)) rfl rfl) ?_
  refine bnd h fun x6 hx6 h => ?_
  refine w_seq (e1 := [some (.p (eLs D.int p_law_script)), some (.p (eLs eR3 x1)), some (.p (eLs eR4 x2)), some (.p (eLs eTISI x3)), some (.p (D.lst [(eLs eTISI x3), (eLs eR4 x4)])), some (oE (fun v => (.tup [(oL D.int v.1), (oL D.int v.2)])) x5), some (.p (eLs eR4 x6)), none]) (w_set2 (e_fz (d := (eLs eR4 x6)) (e_call (a_c (e_v rfl) (a_c (e_v rfl) (a_c (e_v rfl) a_n))) rfl (l_law_due hx6)) (oL_toD (e := eR4) x6)) rfl rfl) ?_
  refine bnd h fun x7 hx7 h => ?_
  refine bnd h fun x12 hx12 h => ?_
  refine w_if (c_orO (c_not (c_t (e_callB (a_c (e_b rfl) (a_c (e_b rfl) a_n)) (u_c (d := (eLs eR4 x5)) (oE_toD (fun _ => (u_t (u_c (oL_toD _) (u_c (oL_toD _) u_n)))) _) (u_c (d := (eLs eR4 x6)) (u_p _) u_n)) (opq_B hx7) rfl))) hx12 (fun _ h => by
    refine bnd h fun x8 hx8 h => ?_
    refine bnd h fun x11 hx11 h => ?_
    have h := Option.some.inj h; subst h
    exact (c_orO (c_t (e_cmp (e_ix (u := (.p (eLs eTISI x3))) (e_b rfl) e_c rfl) (e_b rfl) (u_p _) (u_p _) (g_ne hx8))) hx11 (fun _ h => by
    refine bnd h fun x9 hx9 h => ?_
    refine bnd h fun x10 hx10 h => ?_
    have h := Option.some.inj h; subst h
    exact (c_not (c_t (e_call (a_c (e_v rfl) (a_c (e_fz (d := (eLs eR3 x9)) (e_call (a_c (e_v rfl) a_n) rfl (l_law_deal hx9)) (oL_toD (e := eR3) x9)) a_n)) rfl (opq_B hx10)))))))) h (fun hb h => ?_) (fun hb h => ?_)
  · have h := Option.some.inj h
    subst h
    exact w_sret e_c (Or.inl rfl)
  · refine w_snx ?_
    refine bnd h fun s14 hs14 h => ?_
    refine w_forP (E := (fun v => (.tup [(oL D.int v.1), (oL D.int v.2)]))) (w := [some (.p (eLs D.int p_law_script)), some (.p (eLs eR3 x1)), some (.p (eLs eR4 x2)), some (.p (eLs eTISI x3)), some (.p (D.lst [(eLs eTISI x3), (eLs eR4 x4)])), none, some (.p (eLs eR4 x6)), none]) (envB := fun x13 => [some (.p (eLs D.int p_law_script)), some (.p (eLs eR3 x1)), some (.p (eLs eR4 x2)), some (.p (eLs eTISI x3)), some (.p (D.lst [(eLs eTISI x3), (eLs eR4 x4)])), none, some (.p (eLs eR4 x6)), some (.tup [(oL D.int x13.1), (oL D.int x13.2)])]) (e' := [some (.p (eLs D.int p_law_script)), some (.p (eLs eR3 x1)), some (.p (eLs eR4 x2)), some (.p (eLs eTISI x3)), some (.p (D.lst [(eLs eTISI x3), (eLs eR4 x4)])), some (oE (fun v => (.tup [(oL D.int v.1), (oL D.int v.2)])) s14), some (.p (eLs eR4 x6)), none]) rfl rfl (of_decide_eq_true rfl) (fun _ => rfl) (fun _ => rfl) hs14 rfl (fun x13 y h => ?_) ?_
    · clear hs14
      unfold B_law_1
      refine bnd h fun x15 hx15 h => ?_
      refine w_seq (e1 := [some (.p (eLs D.int p_law_script)), some (.p (eLs eR3 x1)), some (.p (eLs eR4 x2)), some (.p (eLs eTISI x3)), some (.p (D.lst [(eLs eTISI x3), (eLs eR4 x4)])), none, some (.p (eLs eR4 x6)), some (T.tup [(oL D.int x15), (oL D.int x13.2)])]) (w_apL (dd := D.int) (e' := [some (.p (eLs D.int p_law_script)), some (.p (eLs eR3 x1)), some (.p (eLs eR4 x2)), some (.p (eLs eTISI x3)), some (.p (D.lst [(eLs eTISI x3), (eLs eR4 x4)])), none, some (.p (eLs eR4 x6)), some (T.tup [(oL D.int x15), (oL D.int x13.2)])]) (p_it (k := 0) (pl_nm rfl) e_c rfl rfl rfl) (by kernel_rfl) e_c (by kernel_rfl) hx15 (by kernel_rfl)) ?_
      refine w_one ?_
      refine bnd h fun x16 hx16 h => ?_
      refine w_seq (e1 := [some (.p (eLs D.int p_law_script)), some (.p (eLs eR3 x1)), some (.p (eLs eR4 x2)), some (.p (eLs eTISI x3)), some (.p (D.lst [(eLs eTISI x3), (eLs eR4 x4)])), none, some (.p (eLs eR4 x6)), some (T.tup [(oL D.int x15), (oL D.int x16)])]) (w_apL (dd := D.int) (e' := [some (.p (eLs D.int p_law_script)), some (.p (eLs eR3 x1)), some (.p (eLs eR4 x2)), some (.p (eLs eTISI x3)), some (.p (D.lst [(eLs eTISI x3), (eLs eR4 x4)])), none, some (.p (eLs eR4 x6)), some (T.tup [(oL D.int x15), (oL D.int x16)])]) (p_it (k := 1) (pl_nm rfl) e_c rfl rfl rfl) (by kernel_rfl) e_c (by kernel_rfl) hx16 (by kernel_rfl)) ?_
      have h := Option.some.inj h
      subst h
      exact w_nx ⟨rfl, rfl, rfl⟩
    · refine w_one ?_
      refine w_un ?_
      refine w_fzI (E := (fun v => (.tup [(oL D.int v.1), (oL D.int v.2)]))) (e := eR4) (e' := [some (.p (eLs D.int p_law_script)), some (.p (eLs eR3 x1)), some (.p (eLs eR4 x2)), some (.p (eLs eTISI x3)), some (.p (D.lst [(eLs eTISI x3), (eLs eR4 x4)])), some (oL eR4 s14), some (.p (eLs eR4 x6)), none]) rfl (fun _ => (u_t (u_c (oL_toD _) (u_c (oL_toD _) u_n)))) rfl ?_
      refine bnd h fun x17 hx17 h => ?_
      refine w_seq (e1 := [some (.p (eLs D.int p_law_script)), some (.p (eLs eR3 x1)), some (.p (eLs eR4 x2)), some (.p (eLs eTISI x3)), some (.p (D.lst [(eLs eTISI x3), (eLs eR4 x4)])), some (oL eD x17), some (.p (eLs eR4 x6)), none]) (w_appLD2 (dd := eR4) rfl (e_fz (d := (eLs eR4 (cutA s14 none (some (1 : Int))))) (e_sl (e_b rfl) o_n (o_s e_c) s_o) (oL_toD (e := eR4) (cutA s14 none (some (1 : Int))))) rfl hx17 rfl) ?_
      refine w_one ?_
      refine bnd h fun x18 hx18 h => ?_
      refine bnd h fun x21 hx21 h => ?_
      have h := Option.some.inj h
      subst h
      exact w_sret (e_andO (e_call (a_c (e_w (e_ix (u := (.p (eLs eR4 x4))) (e_b rfl) e_c rfl)) (a_c (e_v rfl) a_n)) rfl (opq_B hx18)) hx21 (fun _ h => by
    refine bnd h fun x19 hx19 h => ?_
    refine bnd h fun x20 hx20 h => ?_
    have h := Option.some.inj h; subst h
    exact (e_call (a_c (e_fz (d := (eLs eR4 x19)) (e_call (a_c (e_v rfl) (a_c (e_w (e_ix (u := (.p (eLs eR4 x4))) (e_b rfl) e_c rfl)) (a_c (e_w (e_ix (u := (.p (eLs eTISI x3))) (e_b rfl) e_c rfl)) a_n))) rfl (l_added_losses hx19)) (oE_toD (fun _ => (u_t (u_c (oL_toD _) (u_c (oL_toD _) u_n)))) _)) (a_c (e_v rfl) a_n)) rfl (opq_B hx20)))) (Or.inl rfl)
end K53
set_option Elab.async false
set_option linter.all false
set_option maxRecDepth 100000
set_option maxHeartbeats 2000000
namespace K53
open PySem PySem.Spec PyProof.Rows L2 DL
mutual
def aOk : Nat → D → Bool
  | _, .non => false
  | _, .bl _ => false
  | _, .int _ => true
  | _, .str _ => true
  | 0, .lst _ => false
  | n + 1, .lst ds => decide (ds.length ≤ 1000000) && aOks n ds
  | 0, .tup _ => false
  | n + 1, .tup ds => decide (ds.length ≤ 1000000) && aOks n ds
  | _, .dic _ => false
  | _, .dit _ => false
  | _, .obj _ _ => false
  | _, .al _ => false
def aOks : Nat → List D → Bool
  | _, [] => true
  | n, d :: ds => aOk n d && aOks n ds
end
theorem aOks_all {n : Nat} : ∀ {ds : List D}, aOks n ds = true ↔ ∀ d ∈ ds, aOk n d = true
  | [] => by unfold aOks; simp
  | d :: ds => by unfold aOks; simp [aOks_all (ds := ds)]
theorem same_loop {φ : List D → Option T} {a0 a1 : T} : ∀ (ds : List D), (∀ d ∈ ds, φ [d, d] = some (.p (.bl true))) → ∀ (a2 a3 : Option T), ∃ b2 b3, loopD (gTp 2 (gAnd (gNm 2) (gAnd (gNm 3) gEnd))) (B_law_same_1 φ) (zipD ds ds) [some a0, some a1, a2, a3] = some (.nx, [some a0, some a1, b2, b3])
  | [], _, a2, a3 => ⟨a2, a3, rfl⟩
  | d :: ds, h, a2, a3 => by
    obtain ⟨b2, b3, ih⟩ := same_loop ds (fun x hx => h x (List.mem_cons_of_mem d hx)) (some (.p d)) (some (.p d))
    refine ⟨b2, b3, ?_⟩
    have hp := h d List.mem_cons_self
    have hb : B_law_same_1 φ [some a0, some a1, some (.p d), some (.p d)] = some (.nx, [some a0, some a1, some (.p d), some (.p d)]) := by
      unfold B_law_same_1
      simp (disch := omega) only [hp, ↓reduceIte, and_self, bindS, mapS, eV_q, kV_p, kV_l, kV_t, eM_q, kM_s, eB_q, kB_s, eC_q, eW_q, kW_p, aN_q, aC_q, kAC_q, kCons_q, aMv_q, kMv_s, kMv2_q, kMv3_s, eL_q, kL_q, eT_q, kT_q, kP_q, kBl_q, kT2_q, eFz_q, kFz_q, eOp_q, kOp1_q, kOp2_q, eCmp_q, kCm1_q, kCm2_q, eNeg_q, kNeg_q, eChain_q, kCh1_q, kCh2_q, kCh3_q, cT_q, kcT_q, cNot_q, kNot_q, cAnd_q, kcAnd_t, kcAnd_f, cOr_q, kcOr_t, kcOr_f, eIf_q, keIf_t, keIf_f, eAnd_q, keAnd_t, keAnd_f, eOr_q, keOr_t, keOr_f, eNot_q, keNot_q, sIf_q, kcIf_t, kcIf_f, eB1_q, kB1_q, eI2_q, kI2_q, eIsi_q, kIsi_q, kLst_q, eList_q, kList_q, kTpl_q, eTuple_q, kTuple_q, eCall_q, kCall_q, kCall2_q, eCallB_q, kCallB_q, kCl_q, allP_n, allP_c, eIx_q, kIx1_q, kIx2_q, oN_q, oS_q, koS_q, eSl_q, kSl1_q, kSl2_q, kSl3_q, cutT_p, cutT_l, sNx_q, sBk_q, sCt_q, sRetN_q, sSeq_q, kSeq_n, kSeq_r, kSeq_b, kSeq_c, sRet_q, kRet_q, sSet_q, kSet_q, sDrop_q, kDrop_q, gNm_q, gEnd_q, gAnd_q, gTp_q, kTp_q, partsT_p, partsT_t, kNx_q, sAsg_q, kAsg_q, sFor_q, kFor_q, loop_n, loop_c, kLp1_q, kLp2_n, kLp2_c, kLp2_b, kLp2_r, iL_q, kiL_q, iTp_q, kiTp_q, iSg_q, kiSg_q, iR1_q, kR1_q, iR2_q, kR2_q, iEn_q, kEn_q, iZp_q, kZp_q, kZp_t, sForV_q, kForV_q, kForV1_q, kForV2_n, kForV2_r, atL_q, kAtL_q, sApp_q, kApp_q, kApp1_q, kApp2_q, sPut_q, kPut_q, kPut1_q, kPut2_q, kPut3_q, kPut4_q, kPutEnd_q, asI_q, sAugIx_q, kAx_q, kAx0_q, kAx1_q, kAx2_q, kAx3_q, kAx4_q, kAx5_q, kAx6_q, kAx7_q, kAx8_q, sAug_q, kAug_q, kAug2_q, kAug3_q, comp_n, comp_c, kCp1_q, kCp2_t, kCp2_f, kCp3_q, kCp4_q, eComp_q, kComp_q, kLs_q, cYes_q, wipe_n, wipe_c, eM1_q, kM11_q, kM12_q, eSplit_q, kSp1_q, kSp2_q, eJoin_q, kJn1_q, kJn2_q, kJn3_q, kJn4_q, eCat_q, kCt0_q, kCt1_q, kCt2_q, kCt3_pl, kCt3_ll, kCt3_lp, kCt3_pp, itemsT_p, itemsT_t, itemsT_ll, isLT_p, isLT_l, eDn_q, eDix_q, kDx1_q, kDx2_q, kDx3_q, kDx4_q, eDget_q, kDg1_q, kDg2_q, kDg3_q, kDg4_q, kDg5_q, eDin_q, kDi1_q, kDi2_q, kDi3_q, kDi4_t, kDi4_f, sPutD_q, kPd1_q, kPd2_q, kPd3_q, kPd4_q, kPd5_q, atD_q, kAtD_q, dicT_p, dicT_o, keyT_i, keyT_s, toD_d, kV_d, sForM_q, kForM_q, loopT_n, loopT_c, kLt1_q, kLt2_n, kLt2_r, eM0_q, kM0_q, iR3_q, runF_q, kRun_r, kRun_n, cutT_s, gStarts, gFind, startE, T.toDs, T.toD, cleanT, tyD, tyOk, List.length_cons, List.length_nil, List.length_map, List.map_cons, List.map_nil, List.replicate, List.cons_append, List.nil_append, List.getElem?_cons_zero, List.getElem?_cons_succ, List.set_cons_zero, List.set_cons_succ, Nat.reduceAdd, Nat.reduceSub, Nat.reduceLT, Nat.reduceLeDiff, Nat.zero_add, gAdd_i, gAdd_g, gSub_i, gAddI_i, gMul_l, gMul_r, gDiv_i, gMod_i, gPow_i, gMulA_g, cLt_i, cLe_i, cGt_i, cGe_i, eqQ_i, neQ_i, eqQ_g, neQ_g, eqQ_ints, neQ_ints, eqQ_b, neQ_b, inQ_g, notInQ_g, gLen_g, gStr_i, gStr_s, gSum_p, gSum_l, gLen_p, gLen_l, toD_l, toDs_p, allP_map, ixT_lst, ixT_pl, ixT_pt, ixT_sg, signsD_g, atI_0, atI_1, atI_2, atI_3, atI_4, atI_5, atI_6, ofS, sg_len, ifLe, ifLt, rng_len, decide_true, decide_false, Bool.false_eq_true, Bool.not_true, Bool.not_false, Int.reduceLT, Int.reduceLE, Int.reduceEq, kit_ii, kit_ib, kit_ll, kit_bb, kit_bi, kit_ss, kit_tt, kit_tl, kit_lt, kit_ls, kit_li, kit_lb, kit_is, kit_si, kit_sb, kit_ti, kit_tb, kit_ts]
    have hz : zipD (d :: ds) (d :: ds) = D.tup [d, d] :: zipD ds ds := rfl
    rw [hz, loop_c]
    show (some _).bind _ = _
    rw [bindS, kLp1_q]
    show (B_law_same_1 φ [some a0, some a1, some (.p d), some (.p d)]).bind _ = _
    rw [hb, bindS, kLp2_n]
    exact ih
theorem ki1 : kitB "int" "list" = some false := by decide +kernel
theorem ki2 : kitB "int" "tuple" = some false := by decide +kernel
theorem ki3 : kitB "str" "list" = some false := by decide +kernel
theorem ki4 : kitB "str" "tuple" = some false := by decide +kernel
theorem neB (b : Bool) : neQ (.bl b) (.bl b) = some false := by cases b <;> rfl
theorem same_refl : ∀ (n : Nat) (d : D), aOk n d = true → phi_law_same (n + 1) [d, d] = some (.p (.bl true))
  | _, .non, h => by unfold aOk at h; cases h
  | _, .bl b, h => by unfold aOk at h; cases h
  | n, .int i, _ => by
    have h1 : isN (.int i) .non = some false := rfl
    show runF 4 2 (F_law_same (phi_law_same n)) _ = _
    unfold F_law_same
    simp (disch := omega) only [h1, ki1, ki2, ↓reduceIte, and_self, bindS, mapS, eV_q, kV_p, kV_l, kV_t, eM_q, kM_s, eB_q, kB_s, eC_q, eW_q, kW_p, aN_q, aC_q, kAC_q, kCons_q, aMv_q, kMv_s, kMv2_q, kMv3_s, eL_q, kL_q, eT_q, kT_q, kP_q, kBl_q, kT2_q, eFz_q, kFz_q, eOp_q, kOp1_q, kOp2_q, eCmp_q, kCm1_q, kCm2_q, eNeg_q, kNeg_q, eChain_q, kCh1_q, kCh2_q, kCh3_q, cT_q, kcT_q, cNot_q, kNot_q, cAnd_q, kcAnd_t, kcAnd_f, cOr_q, kcOr_t, kcOr_f, eIf_q, keIf_t, keIf_f, eAnd_q, keAnd_t, keAnd_f, eOr_q, keOr_t, keOr_f, eNot_q, keNot_q, sIf_q, kcIf_t, kcIf_f, eB1_q, kB1_q, eI2_q, kI2_q, eIsi_q, kIsi_q, kLst_q, eList_q, kList_q, kTpl_q, eTuple_q, kTuple_q, eCall_q, kCall_q, kCall2_q, eCallB_q, kCallB_q, kCl_q, allP_n, allP_c, eIx_q, kIx1_q, kIx2_q, oN_q, oS_q, koS_q, eSl_q, kSl1_q, kSl2_q, kSl3_q, cutT_p, cutT_l, sNx_q, sBk_q, sCt_q, sRetN_q, sSeq_q, kSeq_n, kSeq_r, kSeq_b, kSeq_c, sRet_q, kRet_q, sSet_q, kSet_q, sDrop_q, kDrop_q, gNm_q, gEnd_q, gAnd_q, gTp_q, kTp_q, partsT_p, partsT_t, kNx_q, sAsg_q, kAsg_q, sFor_q, kFor_q, loop_n, loop_c, kLp1_q, kLp2_n, kLp2_c, kLp2_b, kLp2_r, iL_q, kiL_q, iTp_q, kiTp_q, iSg_q, kiSg_q, iR1_q, kR1_q, iR2_q, kR2_q, iEn_q, kEn_q, iZp_q, kZp_q, kZp_t, sForV_q, kForV_q, kForV1_q, kForV2_n, kForV2_r, atL_q, kAtL_q, sApp_q, kApp_q, kApp1_q, kApp2_q, sPut_q, kPut_q, kPut1_q, kPut2_q, kPut3_q, kPut4_q, kPutEnd_q, asI_q, sAugIx_q, kAx_q, kAx0_q, kAx1_q, kAx2_q, kAx3_q, kAx4_q, kAx5_q, kAx6_q, kAx7_q, kAx8_q, sAug_q, kAug_q, kAug2_q, kAug3_q, comp_n, comp_c, kCp1_q, kCp2_t, kCp2_f, kCp3_q, kCp4_q, eComp_q, kComp_q, kLs_q, cYes_q, wipe_n, wipe_c, eM1_q, kM11_q, kM12_q, eSplit_q, kSp1_q, kSp2_q, eJoin_q, kJn1_q, kJn2_q, kJn3_q, kJn4_q, eCat_q, kCt0_q, kCt1_q, kCt2_q, kCt3_pl, kCt3_ll, kCt3_lp, kCt3_pp, itemsT_p, itemsT_t, itemsT_ll, isLT_p, isLT_l, eDn_q, eDix_q, kDx1_q, kDx2_q, kDx3_q, kDx4_q, eDget_q, kDg1_q, kDg2_q, kDg3_q, kDg4_q, kDg5_q, eDin_q, kDi1_q, kDi2_q, kDi3_q, kDi4_t, kDi4_f, sPutD_q, kPd1_q, kPd2_q, kPd3_q, kPd4_q, kPd5_q, atD_q, kAtD_q, dicT_p, dicT_o, keyT_i, keyT_s, toD_d, kV_d, sForM_q, kForM_q, loopT_n, loopT_c, kLt1_q, kLt2_n, kLt2_r, eM0_q, kM0_q, iR3_q, runF_q, kRun_r, kRun_n, cutT_s, gStarts, gFind, startE, T.toDs, T.toD, cleanT, tyD, tyOk, List.length_cons, List.length_nil, List.length_map, List.map_cons, List.map_nil, List.replicate, List.cons_append, List.nil_append, List.getElem?_cons_zero, List.getElem?_cons_succ, List.set_cons_zero, List.set_cons_succ, Nat.reduceAdd, Nat.reduceSub, Nat.reduceLT, Nat.reduceLeDiff, Nat.zero_add, gAdd_i, gAdd_g, gSub_i, gAddI_i, gMul_l, gMul_r, gDiv_i, gMod_i, gPow_i, gMulA_g, cLt_i, cLe_i, cGt_i, cGe_i, eqQ_i, neQ_i, eqQ_g, neQ_g, eqQ_ints, neQ_ints, eqQ_b, neQ_b, inQ_g, notInQ_g, gLen_g, gStr_i, gStr_s, gSum_p, gSum_l, gLen_p, gLen_l, toD_l, toDs_p, allP_map, ixT_lst, ixT_pl, ixT_pt, ixT_sg, signsD_g, atI_0, atI_1, atI_2, atI_3, atI_4, atI_5, atI_6, ofS, sg_len, ifLe, ifLt, rng_len, decide_true, decide_false, Bool.false_eq_true, Bool.not_true, Bool.not_false, Int.reduceLT, Int.reduceLE, Int.reduceEq, kit_ii, kit_ib, kit_ll, kit_bb, kit_bi, kit_ss, kit_tt, kit_tl, kit_lt, kit_ls, kit_li, kit_lb, kit_is, kit_si, kit_sb, kit_ti, kit_tb, kit_ts]
  | n, .str s, _ => by
    have h1 : isN (.str s) .non = some false := rfl
    have h2 : eqQ (.str s) (.str s) = some true := by rw [eqQ_s, decide_eq_true rfl]
    show runF 4 2 (F_law_same (phi_law_same n)) _ = _
    unfold F_law_same
    simp (disch := omega) only [h1, h2, ki3, ki4, ↓reduceIte, and_self, bindS, mapS, eV_q, kV_p, kV_l, kV_t, eM_q, kM_s, eB_q, kB_s, eC_q, eW_q, kW_p, aN_q, aC_q, kAC_q, kCons_q, aMv_q, kMv_s, kMv2_q, kMv3_s, eL_q, kL_q, eT_q, kT_q, kP_q, kBl_q, kT2_q, eFz_q, kFz_q, eOp_q, kOp1_q, kOp2_q, eCmp_q, kCm1_q, kCm2_q, eNeg_q, kNeg_q, eChain_q, kCh1_q, kCh2_q, kCh3_q, cT_q, kcT_q, cNot_q, kNot_q, cAnd_q, kcAnd_t, kcAnd_f, cOr_q, kcOr_t, kcOr_f, eIf_q, keIf_t, keIf_f, eAnd_q, keAnd_t, keAnd_f, eOr_q, keOr_t, keOr_f, eNot_q, keNot_q, sIf_q, kcIf_t, kcIf_f, eB1_q, kB1_q, eI2_q, kI2_q, eIsi_q, kIsi_q, kLst_q, eList_q, kList_q, kTpl_q, eTuple_q, kTuple_q, eCall_q, kCall_q, kCall2_q, eCallB_q, kCallB_q, kCl_q, allP_n, allP_c, eIx_q, kIx1_q, kIx2_q, oN_q, oS_q, koS_q, eSl_q, kSl1_q, kSl2_q, kSl3_q, cutT_p, cutT_l, sNx_q, sBk_q, sCt_q, sRetN_q, sSeq_q, kSeq_n, kSeq_r, kSeq_b, kSeq_c, sRet_q, kRet_q, sSet_q, kSet_q, sDrop_q, kDrop_q, gNm_q, gEnd_q, gAnd_q, gTp_q, kTp_q, partsT_p, partsT_t, kNx_q, sAsg_q, kAsg_q, sFor_q, kFor_q, loop_n, loop_c, kLp1_q, kLp2_n, kLp2_c, kLp2_b, kLp2_r, iL_q, kiL_q, iTp_q, kiTp_q, iSg_q, kiSg_q, iR1_q, kR1_q, iR2_q, kR2_q, iEn_q, kEn_q, iZp_q, kZp_q, kZp_t, sForV_q, kForV_q, kForV1_q, kForV2_n, kForV2_r, atL_q, kAtL_q, sApp_q, kApp_q, kApp1_q, kApp2_q, sPut_q, kPut_q, kPut1_q, kPut2_q, kPut3_q, kPut4_q, kPutEnd_q, asI_q, sAugIx_q, kAx_q, kAx0_q, kAx1_q, kAx2_q, kAx3_q, kAx4_q, kAx5_q, kAx6_q, kAx7_q, kAx8_q, sAug_q, kAug_q, kAug2_q, kAug3_q, comp_n, comp_c, kCp1_q, kCp2_t, kCp2_f, kCp3_q, kCp4_q, eComp_q, kComp_q, kLs_q, cYes_q, wipe_n, wipe_c, eM1_q, kM11_q, kM12_q, eSplit_q, kSp1_q, kSp2_q, eJoin_q, kJn1_q, kJn2_q, kJn3_q, kJn4_q, eCat_q, kCt0_q, kCt1_q, kCt2_q, kCt3_pl, kCt3_ll, kCt3_lp, kCt3_pp, itemsT_p, itemsT_t, itemsT_ll, isLT_p, isLT_l, eDn_q, eDix_q, kDx1_q, kDx2_q, kDx3_q, kDx4_q, eDget_q, kDg1_q, kDg2_q, kDg3_q, kDg4_q, kDg5_q, eDin_q, kDi1_q, kDi2_q, kDi3_q, kDi4_t, kDi4_f, sPutD_q, kPd1_q, kPd2_q, kPd3_q, kPd4_q, kPd5_q, atD_q, kAtD_q, dicT_p, dicT_o, keyT_i, keyT_s, toD_d, kV_d, sForM_q, kForM_q, loopT_n, loopT_c, kLt1_q, kLt2_n, kLt2_r, eM0_q, kM0_q, iR3_q, runF_q, kRun_r, kRun_n, cutT_s, gStarts, gFind, startE, T.toDs, T.toD, cleanT, tyD, tyOk, List.length_cons, List.length_nil, List.length_map, List.map_cons, List.map_nil, List.replicate, List.cons_append, List.nil_append, List.getElem?_cons_zero, List.getElem?_cons_succ, List.set_cons_zero, List.set_cons_succ, Nat.reduceAdd, Nat.reduceSub, Nat.reduceLT, Nat.reduceLeDiff, Nat.zero_add, gAdd_i, gAdd_g, gSub_i, gAddI_i, gMul_l, gMul_r, gDiv_i, gMod_i, gPow_i, gMulA_g, cLt_i, cLe_i, cGt_i, cGe_i, eqQ_i, neQ_i, eqQ_g, neQ_g, eqQ_ints, neQ_ints, eqQ_b, neQ_b, inQ_g, notInQ_g, gLen_g, gStr_i, gStr_s, gSum_p, gSum_l, gLen_p, gLen_l, toD_l, toDs_p, allP_map, ixT_lst, ixT_pl, ixT_pt, ixT_sg, signsD_g, atI_0, atI_1, atI_2, atI_3, atI_4, atI_5, atI_6, ofS, sg_len, ifLe, ifLt, rng_len, decide_true, decide_false, Bool.false_eq_true, Bool.not_true, Bool.not_false, Int.reduceLT, Int.reduceLE, Int.reduceEq, kit_ii, kit_ib, kit_ll, kit_bb, kit_bi, kit_ss, kit_tt, kit_tl, kit_lt, kit_ls, kit_li, kit_lb, kit_is, kit_si, kit_sb, kit_ti, kit_tb, kit_ts]
  | 0, .lst _, h => by unfold aOk at h; cases h
  | n + 1, .lst ds, h => by
    unfold aOk at h
    rw [Bool.and_eq_true, decide_eq_true_eq] at h
    obtain ⟨hl, ha⟩ := h
    obtain ⟨b2, b3, hb⟩ := same_loop (φ := phi_law_same (n + 1)) (a0 := .p (.lst ds)) (a1 := .p (.lst ds)) ds (fun d hd => same_refl n d (aOks_all.mp ha d hd)) none none
    show runF 4 2 (F_law_same (phi_law_same (n + 1))) _ = _
    unfold F_law_same
    simp (disch := omega) only [hb, neB, ↓reduceIte, and_self, bindS, mapS, eV_q, kV_p, kV_l, kV_t, eM_q, kM_s, eB_q, kB_s, eC_q, eW_q, kW_p, aN_q, aC_q, kAC_q, kCons_q, aMv_q, kMv_s, kMv2_q, kMv3_s, eL_q, kL_q, eT_q, kT_q, kP_q, kBl_q, kT2_q, eFz_q, kFz_q, eOp_q, kOp1_q, kOp2_q, eCmp_q, kCm1_q, kCm2_q, eNeg_q, kNeg_q, eChain_q, kCh1_q, kCh2_q, kCh3_q, cT_q, kcT_q, cNot_q, kNot_q, cAnd_q, kcAnd_t, kcAnd_f, cOr_q, kcOr_t, kcOr_f, eIf_q, keIf_t, keIf_f, eAnd_q, keAnd_t, keAnd_f, eOr_q, keOr_t, keOr_f, eNot_q, keNot_q, sIf_q, kcIf_t, kcIf_f, eB1_q, kB1_q, eI2_q, kI2_q, eIsi_q, kIsi_q, kLst_q, eList_q, kList_q, kTpl_q, eTuple_q, kTuple_q, eCall_q, kCall_q, kCall2_q, eCallB_q, kCallB_q, kCl_q, allP_n, allP_c, eIx_q, kIx1_q, kIx2_q, oN_q, oS_q, koS_q, eSl_q, kSl1_q, kSl2_q, kSl3_q, cutT_p, cutT_l, sNx_q, sBk_q, sCt_q, sRetN_q, sSeq_q, kSeq_n, kSeq_r, kSeq_b, kSeq_c, sRet_q, kRet_q, sSet_q, kSet_q, sDrop_q, kDrop_q, gNm_q, gEnd_q, gAnd_q, gTp_q, kTp_q, partsT_p, partsT_t, kNx_q, sAsg_q, kAsg_q, sFor_q, kFor_q, loop_n, loop_c, kLp1_q, kLp2_n, kLp2_c, kLp2_b, kLp2_r, iL_q, kiL_q, iTp_q, kiTp_q, iSg_q, kiSg_q, iR1_q, kR1_q, iR2_q, kR2_q, iEn_q, kEn_q, iZp_q, kZp_q, kZp_t, sForV_q, kForV_q, kForV1_q, kForV2_n, kForV2_r, atL_q, kAtL_q, sApp_q, kApp_q, kApp1_q, kApp2_q, sPut_q, kPut_q, kPut1_q, kPut2_q, kPut3_q, kPut4_q, kPutEnd_q, asI_q, sAugIx_q, kAx_q, kAx0_q, kAx1_q, kAx2_q, kAx3_q, kAx4_q, kAx5_q, kAx6_q, kAx7_q, kAx8_q, sAug_q, kAug_q, kAug2_q, kAug3_q, comp_n, comp_c, kCp1_q, kCp2_t, kCp2_f, kCp3_q, kCp4_q, eComp_q, kComp_q, kLs_q, cYes_q, wipe_n, wipe_c, eM1_q, kM11_q, kM12_q, eSplit_q, kSp1_q, kSp2_q, eJoin_q, kJn1_q, kJn2_q, kJn3_q, kJn4_q, eCat_q, kCt0_q, kCt1_q, kCt2_q, kCt3_pl, kCt3_ll, kCt3_lp, kCt3_pp, itemsT_p, itemsT_t, itemsT_ll, isLT_p, isLT_l, eDn_q, eDix_q, kDx1_q, kDx2_q, kDx3_q, kDx4_q, eDget_q, kDg1_q, kDg2_q, kDg3_q, kDg4_q, kDg5_q, eDin_q, kDi1_q, kDi2_q, kDi3_q, kDi4_t, kDi4_f, sPutD_q, kPd1_q, kPd2_q, kPd3_q, kPd4_q, kPd5_q, atD_q, kAtD_q, dicT_p, dicT_o, keyT_i, keyT_s, toD_d, kV_d, sForM_q, kForM_q, loopT_n, loopT_c, kLt1_q, kLt2_n, kLt2_r, eM0_q, kM0_q, iR3_q, runF_q, kRun_r, kRun_n, cutT_s, gStarts, gFind, startE, T.toDs, T.toD, cleanT, tyD, tyOk, List.length_cons, List.length_nil, List.length_map, List.map_cons, List.map_nil, List.replicate, List.cons_append, List.nil_append, List.getElem?_cons_zero, List.getElem?_cons_succ, List.set_cons_zero, List.set_cons_succ, Nat.reduceAdd, Nat.reduceSub, Nat.reduceLT, Nat.reduceLeDiff, Nat.zero_add, gAdd_i, gAdd_g, gSub_i, gAddI_i, gMul_l, gMul_r, gDiv_i, gMod_i, gPow_i, gMulA_g, cLt_i, cLe_i, cGt_i, cGe_i, eqQ_i, neQ_i, eqQ_g, neQ_g, eqQ_ints, neQ_ints, eqQ_b, neQ_b, inQ_g, notInQ_g, gLen_g, gStr_i, gStr_s, gSum_p, gSum_l, gLen_p, gLen_l, toD_l, toDs_p, allP_map, ixT_lst, ixT_pl, ixT_pt, ixT_sg, signsD_g, atI_0, atI_1, atI_2, atI_3, atI_4, atI_5, atI_6, ofS, sg_len, ifLe, ifLt, rng_len, decide_true, decide_false, Bool.false_eq_true, Bool.not_true, Bool.not_false, Int.reduceLT, Int.reduceLE, Int.reduceEq, kit_ii, kit_ib, kit_ll, kit_bb, kit_bi, kit_ss, kit_tt, kit_tl, kit_lt, kit_ls, kit_li, kit_lb, kit_is, kit_si, kit_sb, kit_ti, kit_tb, kit_ts]
  | 0, .tup _, h => by unfold aOk at h; cases h
  | n + 1, .tup ds, h => by
    unfold aOk at h
    rw [Bool.and_eq_true, decide_eq_true_eq] at h
    obtain ⟨hl, ha⟩ := h
    obtain ⟨b2, b3, hb⟩ := same_loop (φ := phi_law_same (n + 1)) (a0 := .p (.tup ds)) (a1 := .p (.tup ds)) ds (fun d hd => same_refl n d (aOks_all.mp ha d hd)) none none
    have gt : gLen (.p (.tup ds)) = some (.int ds.length) := rfl
    show runF 4 2 (F_law_same (phi_law_same (n + 1))) _ = _
    unfold F_law_same
    simp (disch := omega) only [hb, gt, neB, ↓reduceIte, and_self, bindS, mapS, eV_q, kV_p, kV_l, kV_t, eM_q, kM_s, eB_q, kB_s, eC_q, eW_q, kW_p, aN_q, aC_q, kAC_q, kCons_q, aMv_q, kMv_s, kMv2_q, kMv3_s, eL_q, kL_q, eT_q, kT_q, kP_q, kBl_q, kT2_q, eFz_q, kFz_q, eOp_q, kOp1_q, kOp2_q, eCmp_q, kCm1_q, kCm2_q, eNeg_q, kNeg_q, eChain_q, kCh1_q, kCh2_q, kCh3_q, cT_q, kcT_q, cNot_q, kNot_q, cAnd_q, kcAnd_t, kcAnd_f, cOr_q, kcOr_t, kcOr_f, eIf_q, keIf_t, keIf_f, eAnd_q, keAnd_t, keAnd_f, eOr_q, keOr_t, keOr_f, eNot_q, keNot_q, sIf_q, kcIf_t, kcIf_f, eB1_q, kB1_q, eI2_q, kI2_q, eIsi_q, kIsi_q, kLst_q, eList_q, kList_q, kTpl_q, eTuple_q, kTuple_q, eCall_q, kCall_q, kCall2_q, eCallB_q, kCallB_q, kCl_q, allP_n, allP_c, eIx_q, kIx1_q, kIx2_q, oN_q, oS_q, koS_q, eSl_q, kSl1_q, kSl2_q, kSl3_q, cutT_p, cutT_l, sNx_q, sBk_q, sCt_q, sRetN_q, sSeq_q, kSeq_n, kSeq_r, kSeq_b, kSeq_c, sRet_q, kRet_q, sSet_q, kSet_q, sDrop_q, kDrop_q, gNm_q, gEnd_q, gAnd_q, gTp_q, kTp_q, partsT_p, partsT_t, kNx_q, sAsg_q, kAsg_q, sFor_q, kFor_q, loop_n, loop_c, kLp1_q, kLp2_n, kLp2_c, kLp2_b, kLp2_r, iL_q, kiL_q, iTp_q, kiTp_q, iSg_q, kiSg_q, iR1_q, kR1_q, iR2_q, kR2_q, iEn_q, kEn_q, iZp_q, kZp_q, kZp_t, sForV_q, kForV_q, kForV1_q, kForV2_n, kForV2_r, atL_q, kAtL_q, sApp_q, kApp_q, kApp1_q, kApp2_q, sPut_q, kPut_q, kPut1_q, kPut2_q, kPut3_q, kPut4_q, kPutEnd_q, asI_q, sAugIx_q, kAx_q, kAx0_q, kAx1_q, kAx2_q, kAx3_q, kAx4_q, kAx5_q, kAx6_q, kAx7_q, kAx8_q, sAug_q, kAug_q, kAug2_q, kAug3_q, comp_n, comp_c, kCp1_q, kCp2_t, kCp2_f, kCp3_q, kCp4_q, eComp_q, kComp_q, kLs_q, cYes_q, wipe_n, wipe_c, eM1_q, kM11_q, kM12_q, eSplit_q, kSp1_q, kSp2_q, eJoin_q, kJn1_q, kJn2_q, kJn3_q, kJn4_q, eCat_q, kCt0_q, kCt1_q, kCt2_q, kCt3_pl, kCt3_ll, kCt3_lp, kCt3_pp, itemsT_p, itemsT_t, itemsT_ll, isLT_p, isLT_l, eDn_q, eDix_q, kDx1_q, kDx2_q, kDx3_q, kDx4_q, eDget_q, kDg1_q, kDg2_q, kDg3_q, kDg4_q, kDg5_q, eDin_q, kDi1_q, kDi2_q, kDi3_q, kDi4_t, kDi4_f, sPutD_q, kPd1_q, kPd2_q, kPd3_q, kPd4_q, kPd5_q, atD_q, kAtD_q, dicT_p, dicT_o, keyT_i, keyT_s, toD_d, kV_d, sForM_q, kForM_q, loopT_n, loopT_c, kLt1_q, kLt2_n, kLt2_r, eM0_q, kM0_q, iR3_q, runF_q, kRun_r, kRun_n, cutT_s, gStarts, gFind, startE, T.toDs, T.toD, cleanT, tyD, tyOk, List.length_cons, List.length_nil, List.length_map, List.map_cons, List.map_nil, List.replicate, List.cons_append, List.nil_append, List.getElem?_cons_zero, List.getElem?_cons_succ, List.set_cons_zero, List.set_cons_succ, Nat.reduceAdd, Nat.reduceSub, Nat.reduceLT, Nat.reduceLeDiff, Nat.zero_add, gAdd_i, gAdd_g, gSub_i, gAddI_i, gMul_l, gMul_r, gDiv_i, gMod_i, gPow_i, gMulA_g, cLt_i, cLe_i, cGt_i, cGe_i, eqQ_i, neQ_i, eqQ_g, neQ_g, eqQ_ints, neQ_ints, eqQ_b, neQ_b, inQ_g, notInQ_g, gLen_g, gStr_i, gStr_s, gSum_p, gSum_l, gLen_p, gLen_l, toD_l, toDs_p, allP_map, ixT_lst, ixT_pl, ixT_pt, ixT_sg, signsD_g, atI_0, atI_1, atI_2, atI_3, atI_4, atI_5, atI_6, ofS, sg_len, ifLe, ifLt, rng_len, decide_true, decide_false, Bool.false_eq_true, Bool.not_true, Bool.not_false, Int.reduceLT, Int.reduceLE, Int.reduceEq, kit_ii, kit_ib, kit_ll, kit_bb, kit_bi, kit_ss, kit_tt, kit_tl, kit_lt, kit_ls, kit_li, kit_lb, kit_is, kit_si, kit_sb, kit_ti, kit_tb, kit_ts]
  | _, .dic _, h => by unfold aOk at h; cases h
  | _, .dit _, h => by unfold aOk at h; cases h
  | _, .obj _ _, h => by unfold aOk at h; cases h
  | _, .al _, h => by unfold aOk at h; cases h
theorem same_ok {d : D} (h : aOk 7 d = true) : opB (phi_law_same 8 [d, d]) = some true := by
  rw [same_refl 7 d h]; rfl
theorem aL {n : Nat} {α : Type} {e : α → D} {xs : List α} (hl : xs.length ≤ 1000000) (h : ∀ x ∈ xs, aOk n (e x) = true) : aOk (n + 1) (eLs e xs) = true := by
  show aOk (n + 1) (.lst (xs.map e)) = true
  unfold aOk
  rw [Bool.and_eq_true, decide_eq_true_eq]
  refine ⟨by rw [List.length_map]; exact hl, aOks_all.mpr fun d hd => ?_⟩
  obtain ⟨x, hx, rfl⟩ := List.mem_map.mp hd
  exact h x hx
theorem aT {n : Nat} {ds : List D} (hl : ds.length ≤ 1000000) (h : ∀ x ∈ ds, aOk n x = true) : aOk (n + 1) (.tup ds) = true := by
  unfold aOk
  rw [Bool.and_eq_true, decide_eq_true_eq]
  exact ⟨hl, aOks_all.mpr h⟩
theorem aI {n : Nat} {i : Int} : aOk n (.int i) = true := by unfold aOk; rfl
theorem aS {n : Nat} {w : Nm} : aOk n (eS w) = true := by unfold aOk; rfl
end K53
set_option Elab.async false
set_option linter.all false
set_option maxRecDepth 100000
set_option maxHeartbeats 1000000
namespace K53
open PySem PySem.Spec PyProof.Rows L2 DL
open DK (Rl)
theorem bits_lt {x : Int} {n : Nat} (h : Builtin.Int.intBits x ≤ n) : x.natAbs < 2 ^ n := by
  unfold Builtin.Int.intBits at h
  by_cases z : x = 0
  · subst z; exact Nat.two_pow_pos n
  · have hb : (x == 0) = false := by simpa using z
    rw [hb] at h
    have hn : x.natAbs ≠ 0 := by omega
    have h : x.natAbs.log2 + 1 ≤ n := h
    exact (Nat.log2_lt hn).mp (by omega)
theorem lt_bits {x : Int} {n : Nat} (hn : 1 ≤ n) (h : x.natAbs < 2 ^ n) : Builtin.Int.intBits x ≤ n := by
  unfold Builtin.Int.intBits
  by_cases z : x = 0
  · subst z; exact Nat.le_trans (by decide) hn
  · have hb : (x == 0) = false := by simpa using z
    rw [hb]
    have hx : x.natAbs ≠ 0 := by omega
    show x.natAbs.log2 + 1 ≤ n
    have := (Nat.log2_lt hx).mpr h
    omega
theorem bits_add {x d : Int} {n : Nat} (hx : Builtin.Int.intBits x ≤ n) (hd : d.natAbs < 2 ^ n) : Builtin.Int.intBits (x + d) ≤ n + 1 := by
  refine lt_bits (by omega) ?_
  have h1 := bits_lt hx
  have h2 : (x + d).natAbs ≤ x.natAbs + d.natAbs := Int.natAbs_add_le x d
  rw [Nat.pow_succ]
  omega
def Dr (x : Int) : Prop := 0 ≤ x ∧ x < 170141183460469231731687303715884105727
def Bt (ns : List Int) : Prop := ∀ z ∈ ns, Builtin.Int.intBits z ≤ 1048576
theorem draw_ok {ns : List Int} (hb : Bt ns) (k : Int) (hk : 0 ≤ k ∧ k ≤ 100000) : Ok (n_law_draw ns k) Dr := by
  unfold n_law_draw
  refine ok_bind (Q := fun s => Builtin.Int.intBits s ≤ 1048576) ?_ fun s hs => ?_
  · refine ok_dite (fun h => ?_) (fun h => ok_some (lt_bits (by omega) (Nat.two_pow_pos _)))
    refine ok_bind (ok_mod h) fun x hx => ?_
    exact ok_bind (ok_atI (R := fun z => Builtin.Int.intBits z ≤ 1048576) hx.1 hx.2 hb) fun _ h => ok_some h
  · have h1 : 0 ≤ 7919000003 * k * k := Int.mul_nonneg (by omega) hk.1
    have h2 : 7919000003 * k * k ≤ 791900000300000 * 100000 := Int.mul_le_mul (by omega) hk.2 hk.1 (by omega)
    refine ok_eq (mulN_r (by omega)) ?_
    generalize 7919000003 * k * k = q at h1 h2
    refine ok_eq (v := (s + k + 1) * (91343852333181432387730302044767688731 + q)) (if_pos ?_) (ok_some ⟨Int.emod_nonneg _ (by omega), Int.emod_lt_of_pos _ (by omega)⟩)
    unfold mulOk
    refine decide_eq_true (.inr (.inr ?_))
    have b1 : Builtin.Int.intBits (s + k + 1) ≤ 1048576 + 1 := by
      rw [Int.add_assoc]
      refine bits_add hs ?_
      have e : (k + 1).natAbs < 2 ^ 20 := by
        have : (2 : Nat) ^ 20 = 1048576 := by decide
        omega
      exact Nat.lt_of_lt_of_le e (Nat.pow_le_pow_right (by omega) (by omega))
    have b2 := bits_small (x := 91343852333181432387730302044767688731 + q) (by omega) (by omega)
    omega
def At (n : Nat) (l : List Int) : Prop := ∃ a : Int, l = [a] ∧ 0 ≤ a ∧ a ≤ n
theorem At.up {n m : Nat} {l : List Int} (h : At n l) (hm : n ≤ m) : At m l := by
  obtain ⟨a, e, h0, h1⟩ := h
  exact ⟨a, e, h0, by omega⟩
theorem next_ok {ns : List Int} (hb : Bt ns) {n : Nat} {l : List Int} (h : At n l) (hn : n ≤ 90000) : Ok (n_law_next ns l) fun r => Dr r.1 ∧ At (n + 1) r.2 := by
  obtain ⟨a, rfl, h0, h1⟩ := h
  unfold n_law_next
  refine ok_eq (v := a) rfl ?_
  refine ok_eq (v := [a + 1]) rfl ?_
  refine ok_eq (v := a + 1) rfl ?_
  refine ok_bind (draw_ok hb (a + 1) (by omega)) fun x hx => ok_some ⟨hx, a + 1, rfl, by omega, by omega⟩
theorem ok_compS {α β σ : Type} {f : α → σ → Option (β × σ)} (I : Nat → σ → Prop) {R : β → Prop} {xs : List α} {s : σ} (hl : xs.length ≤ 1000000) (h0 : I 0 s) (hs : ∀ x ∈ xs, ∀ i s, i < xs.length → I i s → Ok (f x s) fun r => R r.1 ∧ I (i + 1) r.2) : Ok (compS f xs s) fun z => z.1.length = xs.length ∧ (∀ y ∈ z.1, R y) ∧ I xs.length z.2 := by
  have go : ∀ (xs : List α) (k : Nat) (s : σ), I k s → (∀ x ∈ xs, ∀ i s, i < k + xs.length → I i s → Ok (f x s) fun r => R r.1 ∧ I (i + 1) r.2) → Ok (mapSt f xs s) fun z => z.1.length = xs.length ∧ (∀ y ∈ z.1, R y) ∧ I (k + xs.length) z.2 := by
    intro xs
    induction xs with
    | nil => intro k s h _; exact ok_some ⟨rfl, (fun y hy => by cases hy), h⟩
    | cons x xs ih =>
      intro k s h hf
      refine ok_bind (hf x (by simp) k s (by simp) h) fun r hr => ?_
      obtain ⟨z, e, h1, h2, h3⟩ := ih (k + 1) r.2 hr.2 (fun y hy i s hi => hf y (by simp [hy]) i s (by rw [List.length_cons]; omega))
      refine ⟨(r.1 :: z.1, z.2), by rw [e]; rfl, by simp [h1], fun y hy => ?_, by rw [List.length_cons, show k + (xs.length + 1) = k + 1 + xs.length by omega]; exact h3⟩
      rcases List.mem_cons.mp hy with rfl | hy
      · exact hr.1
      · exact h2 y hy
  unfold compS
  rw [if_pos hl]
  have := go xs 0 s h0 (fun x hx i s hi => hs x hx i s (by omega))
  rw [Nat.zero_add] at this
  exact this
abbrev abc : Nm := cod "abcdefghijklmnopqrstuvwxyz"
theorem abc_len : abc.length = 26 := by decide +kernel
theorem abc_inj : ∀ i < 26, ∀ j < 26, abc.getD i 0 = abc.getD j 0 → i = j := by decide +kernel
theorem abc_sok (i : Nat) (h : i < 26) : abc.getD i 0 < 1114112 := by
  have hl := abc_len
  rw [List.getD_eq_getElem?_getD, List.getElem?_eq_getElem (by omega)]
  exact sok_cod _ _ (List.getElem_mem _)
def cc (x : Int) : Nat := abc.getD (x % 26).toNat 0
theorem cc_ix (x : Int) : ixS abc (x % 26) = some [cc x] := by
  have h0 := Int.emod_nonneg x (show (26 : Int) ≠ 0 by omega)
  have h1 := Int.emod_lt_of_pos x (show (0 : Int) < 26 by omega)
  have hl := abc_len
  exact FA.ixS_ok (by omega) h0 (by omega)
theorem cc_sok (x : Int) : cc x < 1114112 := abc_sok _ (by omega)
theorem cc_inj {x y : Int} (h : cc x = cc y) : x % 26 = y % 26 := by
  have := abc_inj (x % 26).toNat (by omega) (y % 26).toNat (by omega) h
  omega
theorem sok_app {a b : Nm} (ha : Sok a) (hb : Sok b) : Sok (a ++ b) := fun c hc => (List.mem_append.mp hc).elim (ha c) (hb c)
theorem kw_ok : ∃ K, n_law_keywords = some K := ⟨_, by
  unfold n_law_keywords
  rw [show splitN (cod "pool claim pot eat order part pay share repay fill lend back rest look guard debt on late early quit") (cod " ") = some _ from if_pos ⟨by decide +kernel, by decide +kernel⟩]
  rfl⟩
def fin (K : List Nm) (w : Nm) : Nm := if w ∈ K then w ++ cod "z" else w
theorem name_eq (seed : Int) (hs : 0 ≤ seed ∧ seed < 1000000000000) : ∃ (A B : Nm) (K : List Nm), Sok A ∧ Sok B ∧ ∀ k, 0 ≤ k → n_law_name seed k = some (fin K (A ++ ([cc (seed / 7 + k / 26)] ++ [cc (seed / 3 + k)]) ++ B)) := by
  obtain ⟨K, hK⟩ := kw_ok
  have m0 := Int.emod_nonneg seed (show (6 : Int) ≠ 0 by omega)
  have m1 := Int.emod_lt_of_pos seed (show (0 : Int) < 6 by omega)
  have hc : compO (fun (x3 : Int) => (mulN x3 x3).bind fun x4 =>
      (mulN x4 ((seed / (1100 : Int)) % (5 : Int))).bind fun x5 =>
      (ixS (cod "abcdefghijklmnopqrstuvwxyz") (((seed / (42 : Int)) + x5) % (26 : Int))).bind fun x6 =>
      some x6) (rngN 0 (2 + seed % 6).toNat) = some (((rngN 0 (2 + seed % 6).toNat).map fun x => cc (seed / 42 + x * x * (seed / 1100 % 5))).map fun c => [c]) := by
    rw [List.map_map]
    refine compO_eq (by rw [rngN_len]; omega) fun x hx => ?_
    have hx := rngN_mem hx
    rw [mulN_l (by omega), bindS, mulN_r (by omega), bindS, cc_ix, bindS]; rfl
  have hl : ((rngN 0 (2 + seed % 6).toNat).map fun x => cc (seed / 42 + x * x * (seed / 1100 % 5))).length ≤ 8 := by rw [List.length_map, rngN_len]; omega
  have hso : Sok ((rngN 0 (2 + seed % 6).toNat).map fun x => cc (seed / 42 + x * x * (seed / 1100 % 5))) := fun c hc => by
    obtain ⟨x, _, rfl⟩ := List.mem_map.mp hc
    exact cc_sok _
  have hj := FA.join1 (l := (rngN 0 (2 + seed % 6).toNat).map fun x => cc (seed / 42 + x * x * (seed / 1100 % 5))) (by omega)
  generalize ((rngN 0 (2 + seed % 6).toNat).map fun x => cc (seed / 42 + x * x * (seed / 1100 % 5))) = l at hc hl hso hj
  have l1 := cutA_len l none (some (seed / 6 % (2 + seed % 6 - 1)))
  have l2 := cutA_len l (some (seed / 6 % (2 + seed % 6 - 1) + 2)) none
  refine ⟨cutA l none (some (seed / 6 % (2 + seed % 6 - 1))), cutA l (some (seed / 6 % (2 + seed % 6 - 1) + 2)) none, K, fun c hc => hso c (cutA_mem hc), fun c hc => hso c (cutA_mem hc), fun k hk => ?_⟩
  unfold n_law_name
  rw [modN_eq (by omega), bindS, rng1_eq (by omega) (by omega), bindS, hc, bindS, hj, bindS, cc_ix, bindS, cc_ix, bindS, catS_eq (by simp), bindS,
    show cutN l none (some (seed / 6 % (2 + seed % 6 - 1))) = some _ from if_pos (by omega), bindS, catS_eq (by simp; omega), bindS,
    show cutN l (some (seed / 6 % (2 + seed % 6 - 1) + 2)) none = some _ from if_pos (by omega), bindS, catS_eq (by simp; omega), bindS, hK, bindS]
  generalize cutA l none (some (seed / 6 % (2 + seed % 6 - 1))) = A at l1
  generalize cutA l (some (seed / 6 % (2 + seed % 6 - 1) + 2)) none = B at l2
  unfold fin
  by_cases q : A ++ ([cc (seed / 7 + k / 26)] ++ [cc (seed / 3 + k)]) ++ B ∈ K
  · rw [if_pos q, if_pos (decide_eq_true q), catS_eq (by simp; have : (cod "z").length = 1 := by decide +kernel
                                                         omega), bindS]; rfl
  · rw [if_neg q, if_neg (by rw [decide_eq_false q]; simp)]; rfl
theorem fin_sok {K : List Nm} {w : Nm} (h : Sok w) : Sok (fin K w) := by
  unfold fin
  split
  · exact sok_app h (sok_cod "z")
  · exact h
theorem name_ok (seed k : Int) (hs : 0 ≤ seed ∧ seed < 1000000000000) (hk : 0 ≤ k) : Ok (n_law_name seed k) Sok := by
  obtain ⟨A, B, K, hA, hB, h⟩ := name_eq seed hs
  refine ok_of (h k hk) (fin_sok (sok_app (sok_app hA ?_) hB))
  intro c hc
  rcases List.mem_append.mp hc with hc | hc <;> rw [List.mem_singleton.mp hc] <;> exact cc_sok _
theorem name_ne (seed : Int) (hs : 0 ≤ seed ∧ seed < 1000000000000) {i j : Int} (hi : 0 ≤ i ∧ i < 6) (hj : 0 ≤ j ∧ j < 6) (hne : i ≠ j) {u v : Nm} (hu : n_law_name seed (10 * i) = some u) (hv : n_law_name seed (10 * j) = some v) : u ≠ v := by
  obtain ⟨A, B, K, hA, hB, h⟩ := name_eq seed hs
  rw [h _ (by omega)] at hu hv
  cases hu; cases hv
  intro e
  have hz : (cod "z").length = 1 := by decide +kernel
  have key : ∀ {x y : Nm}, A ++ x ++ B = A ++ y ++ B → x = y := fun h => List.append_cancel_left (List.append_cancel_right h)
  have hin : A ++ ([cc (seed / 7 + 10 * i / 26)] ++ [cc (seed / 3 + 10 * i)]) ++ B = A ++ ([cc (seed / 7 + 10 * j / 26)] ++ [cc (seed / 3 + 10 * j)]) ++ B := by
    unfold fin at e
    split at e <;> split at e
    · exact List.append_cancel_right e
    · have := congrArg List.length e
      simp only [List.length_append, List.length_cons, List.length_nil, hz] at this; omega
    · have := congrArg List.length e
      simp only [List.length_append, List.length_cons, List.length_nil, hz] at this; omega
    · exact e
  have h2 := key hin
  injection h2 with h3 h4
  injection h4 with h5 _
  have h3 := cc_inj h3
  have h5 := cc_inj h5
  omega
end K53
set_option Elab.async false
set_option linter.all false
set_option maxRecDepth 100000
set_option maxHeartbeats 1000000
namespace K53
open PySem PySem.Spec PyProof.Rows L2 DL
open DK (Rl)
def RD (d : D) : Prop := ∃ r : Rl, d = r.d ∧ ∀ l, r = .share l → l.length ≤ 100
theorem RD.of {r : Rl} (h : ∀ l, r ≠ .share l) : RD r.d := ⟨r, rfl, fun l e => absurd e (h l)⟩
theorem coins_ok (n : Int) (h : 0 ≤ n) : Ok (n_law_coins n) fun _ => True := by
  unfold n_law_coins
  refine ok_dite (fun _ => ?_) fun _ => ok_dite (fun _ => ok_some trivial) fun _ => ok_some trivial
  exact ok_bind (ok_atI (R := fun _ => True) (Int.emod_nonneg _ (by omega)) (Int.emod_lt_of_pos _ (by omega)) fun _ _ => trivial) fun _ _ => ok_some trivial
theorem rule_ok (n : Int) {cl : List TSII} {pl : List TSI} {os : List Nm} (hn : Dr n) (hc : 1 ≤ cl.length ∧ cl.length ≤ 6) : Ok (n_law_rule n cl pl os) RD := by
  obtain ⟨hn0, hn1⟩ := hn
  unfold n_law_rule
  refine ok_bind (ok_mod (by omega)) fun x1 h1 => ?_
  refine ok_bind (ok_atI (R := fun _ => True) h1.1 h1.2 fun _ _ => trivial) fun x2 _ => ?_
  refine ok_ite (fun c => ?_) fun _ => ?_
  · rw [Bool.and_eq_true, decide_eq_true_eq, decide_eq_true_eq] at c
    refine ok_bind (ok_mod (by omega)) fun x3 h3 => ?_
    refine ok_eq (rng1_eq (by omega) (by omega)) ?_
    refine ok_bind (ok_compO (R := fun _ _ => True) (by rw [rngN_len]; omega) fun x hx => ?_) fun c8 h8 => ?_
    · refine ok_bind (ok_mod (by omega)) fun z hz => ?_
      exact ok_bind (ok_atI (R := fun _ => True) hz.1 hz.2 fun _ _ => trivial) fun _ _ => ok_some trivial
    · have h8 := h8.1
      rw [rngN_len] at h8
      exact ok_some ⟨.share c8, rfl, fun l e => by cases e; omega⟩
  refine ok_dite (fun _ => ok_some (RD.of (r := .repay x2.1) (by simp))) fun _ => ?_
  refine ok_ite (fun c => ?_) fun _ => ?_
  · rw [Bool.and_eq_true, decide_eq_true_eq, decide_eq_true_eq] at c
    refine ok_bind (ok_mod (by omega)) fun z hz => ?_
    exact ok_bind (ok_atI (R := fun _ => True) hz.1 hz.2 fun _ _ => trivial) fun x _ => ok_some (RD.of (r := .fill x.1) (by simp))
  refine ok_ite (fun c => ?_) fun _ => ?_
  · rw [Bool.and_eq_true, decide_eq_true_eq, decide_eq_true_eq] at c
    refine ok_bind (ok_mod (by omega)) fun z hz => ?_
    refine ok_bind (ok_atI (R := fun _ => True) hz.1 hz.2 fun _ _ => trivial) fun x _ => ?_
    exact ok_bind (coins_ok _ (Int.ediv_nonneg hn0 (by omega))) fun y _ => ok_some (RD.of (r := .lend x y) (by simp))
  refine ok_ite (fun c => ?_) fun _ => ok_some (RD.of (r := .pay x2.1) (by simp))
  rw [Bool.and_eq_true, decide_eq_true_eq, decide_eq_true_eq] at c
  refine ok_bind (ok_mod (by omega)) fun z hz => ?_
  exact ok_bind (ok_atI (R := fun _ => True) hz.1 hz.2 fun _ _ => trivial) fun x _ => ok_some (RD.of (r := .back x) (by simp))
structure OG (o : R2) : Prop where
  parts : o.2.1.length ≤ 20
  len : o.2.2.length ≤ 20
  all : ∀ d ∈ o.2.2, RD d
section
variable {ns : List Int} (hb : Bt ns)
include hb
theorem order_ok {l : List Int} {n : Nat} (h : At n l) (hn : n ≤ 50000) (nm : Nm) {cl : List TSII} (pl : List TSI) (os : List Nm) (hc : 1 ≤ cl.length ∧ cl.length ≤ 6) : Ok (n_law_order ns l nm cl pl os) fun r => OG r.1 ∧ At (n + 20) r.2 := by
  unfold n_law_order
  refine ok_bind (next_ok hb h (by omega)) fun x1 h1 => ?_
  obtain ⟨d1, a1⟩ := h1
  obtain ⟨d10, d11⟩ := d1
  refine ok_bind (ok_mod (by omega)) fun x2 h2 => ?_
  have hm : (x1.1 / 10) % 2 = 0 ∨ (x1.1 / 10) % 2 = 1 := by omega
  refine ok_eq (mulN_l (by omega)) ?_
  have h3 : 0 ≤ x2 * (x1.1 / 10 % 2) ∧ x2 * (x1.1 / 10 % 2) ≤ 6 := by
    rcases hm with e | e <;> rw [e] <;> omega
  generalize x2 * (x1.1 / 10 % 2) = x3 at h3
  refine ok_eq (rng1_eq (by omega) (by omega)) ?_
  refine ok_bind (ok_fold0 (fun pre (st : (List Int) × (List TSI)) => At (n + 1 + pre.length) st.1 ∧ st.2.length = pre.length) ⟨a1, rfl⟩ fun pre x post st e hi => ?_) fun s12 h12 => ?_
  · have hl := congrArg List.length e
    rw [rngN_len, List.length_append, List.length_cons] at hl
    refine ok_bind (ok_mod (by omega)) fun z hz => ?_
    refine ok_bind (ok_atI (R := fun _ => True) hz.1 hz.2 fun _ _ => trivial) fun x9 _ => ?_
    refine ok_bind (next_ok hb hi.1 (by omega)) fun x10 h10 => ?_
    refine ok_eq (push_eq (by omega)) (ok_some ⟨h10.2.up (by rw [List.length_append]; simp; omega), by rw [List.length_append, List.length_append, hi.2]; rfl⟩)
  rw [rngN_len] at h12
  refine ok_eq (rng1_eq (by omega) (by omega)) ?_
  refine ok_bind (ok_compS (fun i s => At (n + 1 + x3.toNat + i) s) (R := RD) (by rw [rngN_len]; omega) h12.1 fun x hx i s hi ha => ?_) fun x18 h18 => ?_
  · rw [rngN_len] at hi
    refine ok_bind (next_ok hb ha (by omega)) fun x16 h16 => ?_
    exact ok_bind (rule_ok _ h16.1 hc) fun d hd => ok_some ⟨hd, h16.2⟩
  rw [rngN_len] at h18
  refine ok_bind (ok_mod (by omega)) fun z hz => ?_
  refine ok_bind (ok_atI (R := fun _ => True) hz.1 hz.2 fun _ _ => trivial) fun x20 _ => ?_
  refine ok_eq (push_eq (by omega)) (ok_some ⟨⟨by show s12.2.length ≤ 20; omega, by show (x18.1 ++ _).length ≤ 20; rw [List.length_append]; simp; omega, fun d hd => ?_⟩, h18.2.2.up (by omega)⟩)
  rcases List.mem_append.mp hd with hd | hd
  · exact h18.2.1 d hd
  · rw [List.mem_singleton.mp hd]; exact RD.of (r := .rest x20.1) (by simp)
theorem orders_ok {l : List Int} {n : Nat} (h : At n l) (hn : n ≤ 40000) (seed : Int) (hs : 0 ≤ seed ∧ seed < 1000000000000) {cl : List TSII} (pl : List TSI) (os : List Nm) (most : Int) (hq : 1 ≤ most ∧ most ≤ 5) (hc : 1 ≤ cl.length ∧ cl.length ≤ 6) : Ok (n_law_orders ns l seed cl pl os most) fun r => (1 ≤ r.1.length ∧ r.1.length ≤ 5 ∧ ∀ o ∈ r.1, OG o) ∧ At (n + 200) r.2 := by
  unfold n_law_orders
  refine ok_bind (next_ok hb h (by omega)) fun x1 h1 => ?_
  obtain ⟨d1, a1⟩ := h1
  refine ok_bind (ok_mod (by omega)) fun x2 h2 => ?_
  refine ok_eq (rng1_eq (by omega) (by omega)) ?_
  refine ok_bind (ok_fold0 (fun pre (st : (List Int) × (List R2)) => At (n + 1 + 21 * pre.length) st.1 ∧ st.2.length = pre.length ∧ ∀ o ∈ st.2, OG o) ⟨a1, rfl, by simp⟩ fun pre x post st e hi => ?_) fun s h20 => ok_some ?_
  · have hl := congrArg List.length e
    rw [rngN_len, List.length_append, List.length_cons] at hl
    have hx := rngN_mem (show x ∈ rngN 0 (1 + x2).toNat by rw [e]; simp)
    refine ok_bind (ok_mod (by omega)) fun z hz => ?_
    refine ok_bind (ok_atI (R := fun _ => True) hz.1 hz.2 fun _ _ => trivial) fun x10 _ => ?_
    refine ok_bind (next_ok hb hi.1 (by omega)) fun x11 h11 => ?_
    refine ok_bind (Q := fun _ => True) ?_ fun nm _ => ?_
    · refine ok_dite (fun _ => ok_bind (name_ok seed _ hs (by omega)) fun _ _ => ok_some trivial) fun _ => ?_
      refine ok_eq (compT_eq (by omega)) ?_
      refine ok_dite (fun _ => ok_bind (name_ok seed _ hs (by omega)) fun _ _ => ok_some trivial) fun _ => ok_some trivial
    · refine ok_bind (order_ok hb h11.2 (by omega) nm pl os hc) fun o ho => ?_
      refine ok_eq (push_eq (by omega)) (ok_some ⟨ho.2.up (by rw [List.length_append]; simp; omega), by rw [List.length_append, List.length_append, hi.2.1]; rfl, fun p hp => ?_⟩)
      rcases List.mem_append.mp hp with hp | hp
      · exact hi.2.2 p hp
      · rw [List.mem_singleton.mp hp]; exact ho.1
  · rw [rngN_len] at h20
    exact ⟨⟨by show 1 ≤ s.2.length; omega, by show s.2.length ≤ 5; omega, h20.2.2⟩, h20.1.up (by omega)⟩
end
theorem asQS_eq : ∀ l : List Nm, asQS (eSq eS l) = some l := by
  intro l
  show asSs (l.map eS) = some l
  induction l with
  | nil => rfl
  | cons c l ih =>
    show (asSN (eS c)).bind _ = _
    rw [FA.asSN_S, bindS]
    show (asSs (l.map eS)).map _ = _
    rw [ih]; rfl
theorem busy_rule (s : List Nm) {d : D} (h : RD d) (hs : s.length ≤ 100000) : Ok ((ixD d (0 : Int)).bind fun x8 =>
  (eqQ x8 (eS (cod "share"))).bind fun x9 =>
  ((if x9 = true then
  ((ixD d (1 : Int)).bind fun x10 =>
  (asQS x10).bind fun x11 =>
  (extL s x11).bind fun x12 =>
  some x12)
  else (some s)) : Option ((List Nm))).bind fun s13 =>
  (ixD d (0 : Int)).bind fun x14 =>
  (eqQ x14 (eS (cod "repay"))).bind fun x15 =>
  (if x15 = true then
  ((ixD d (1 : Int)).bind fun x16 =>
  (asSN x16).bind fun x17 =>
  (push s13 x17).bind fun x18 =>
  some x18)
  else (some s13))) fun s' => s'.length ≤ s.length + 101 := by
  obtain ⟨r, rfl, hr⟩ := h
  obtain ⟨w, h0, hsh, hre⟩ := DK.ixD_0 r
  refine ok_eq h0 ?_
  refine ok_eq eqQ_g ?_
  refine ok_bind (Q := fun t : List Nm => t.length ≤ s.length + 100) ?_ fun t ht => ?_
  · by_cases c : w = cod "share"
    · rw [if_pos (decide_eq_true c)]
      obtain ⟨l, rfl⟩ := hsh.mp c
      have := hr l rfl
      refine ok_eq (show ixD (Rl.share l).d 1 = some (eSq eS l) from rfl) ?_
      refine ok_eq (asQS_eq l) ?_
      refine ok_eq (extL_eq (by omega)) (ok_some ?_)
      rw [List.length_append]; omega
    · rw [if_neg (by rw [decide_eq_false c]; simp)]
      exact ok_some (by omega)
  · refine ok_eq h0 ?_
    refine ok_eq eqQ_g ?_
    by_cases c2 : w = cod "repay"
    · rw [if_pos (decide_eq_true c2)]
      obtain ⟨z, rfl⟩ := hre.mp c2
      refine ok_eq (show ixD (Rl.repay z).d 1 = some (eS z) from rfl) ?_
      refine ok_eq (FA.asSN_S z) ?_
      refine ok_eq (push_eq (by omega)) (ok_some ?_)
      rw [List.length_append]; simp; omega
    · rw [if_neg (by rw [decide_eq_false c2]; simp)]
      exact ok_some (by omega)
theorem shared_ok {os : List R2} (hl : os.length ≤ 5) (ho : ∀ o ∈ os, OG o) : Ok (n_law_shared_names os) fun _ => True := by
  unfold n_law_shared_names
  refine ok_bind (ok_fold0 (fun pre (s : List Nm) => s.length ≤ 3000 * pre.length) (by simp) fun pre x post s e hi => ?_) fun _ _ => ok_some trivial
  have hl := congrArg List.length e
  rw [List.length_append, List.length_cons] at hl
  have hx := ho x (by rw [e]; simp)
  have h5 := hx.len
  refine ok_bind (ok_fold0 (fun pre2 (t : List Nm) => t.length ≤ s.length + 101 * pre2.length) (by simp) fun pre2 y post2 t e2 hi2 => ?_) fun t ht => ok_some ?_
  · have hl2 := congrArg List.length e2
    rw [List.length_append, List.length_cons] at hl2
    refine ok_imp (busy_rule t (hx.all y (by rw [e2]; simp)) (by omega)) fun t' ht' => ?_
    rw [List.length_append]; simp; omega
  · rw [List.length_append]; simp; omega
section
variable {ns : List Int} (hb : Bt ns)
include hb
theorem guards_ok {l : List Int} {n : Nat} (h : At n l) (hn : n ≤ 50000) {cl : List TSII} {pl : List TSI} {os : List R2} (hc : cl.length ≤ 6) (hl : os.length ≤ 5) (ho : ∀ o ∈ os, OG o) : Ok (n_law_guards ns l cl pl os) fun r => r.1.length ≤ 4 ∧ At (n + 10) r.2 := by
  unfold n_law_guards
  refine ok_bind (shared_ok hl ho) fun x1 _ => ?_
  refine ok_eq (compTF_eq (by omega)) ?_
  have hf : ((cl.filter fun x2 => !decide (x2.1 ∈ x1)).map fun x2 => x2.1).length ≤ cl.length := by rw [List.length_map]; exact List.length_filter_le _ _
  generalize ((cl.filter fun x2 => !decide (x2.1 ∈ x1)).map fun x2 => x2.1) = c3 at hf
  refine ok_bind (Q := fun s : (List Int) × (List TSS) => s.2.length ≤ 4 ∧ At (n + 10) s.1) ?_ fun s hs => ok_some ⟨hs.1, hs.2⟩
  refine ok_dite (fun hp => ?_) fun _ => ok_some ⟨by simp, h.up (by omega)⟩
  refine ok_bind (next_ok hb h (by omega)) fun x4 h4 => ?_
  have hmin : 0 ≤ minI (c3.length : Int) (x4.1 % 4) ∧ minI (c3.length : Int) (x4.1 % 4) ≤ 3 ∧ minI (c3.length : Int) (x4.1 % 4) ≤ c3.length := by rw [FA.minI_eq]; omega
  generalize minI (c3.length : Int) (x4.1 % 4) = mi at hmin
  refine ok_eq (rng1_eq (by omega) (by omega)) ?_
  refine ok_bind (ok_fold0 (fun pre (st : (List Int) × (List TSS)) => At (n + 1 + pre.length) st.1 ∧ st.2.length = pre.length) ⟨h4.2, rfl⟩ fun pre x post st e hi => ?_) fun s hs => ok_some ?_
  · have hl := congrArg List.length e
    rw [rngN_len, List.length_append, List.length_cons] at hl
    have hx := rngN_mem (show x ∈ rngN 0 mi.toNat by rw [e]; simp)
    refine ok_bind (next_ok hb hi.1 (by omega)) fun x9 h9 => ?_
    refine ok_bind (ok_mod hp) fun z hz => ?_
    refine ok_bind (ok_atI (R := fun _ => True) hz.1 hz.2 fun _ _ => trivial) fun x11 _ => ?_
    refine ok_bind (ok_atI (R := fun _ => True) (by omega) (by omega) fun _ _ => trivial) fun x12 _ => ?_
    refine ok_eq (push_eq (by omega)) (ok_some ⟨h9.2.up (by rw [List.length_append]; simp; omega), by rw [List.length_append, List.length_append, hi.2]; rfl⟩)
  · rw [rngN_len] at hs
    exact ⟨by show s.2.length ≤ 4; omega, hs.1.up (by omega)⟩
structure PO (p : R3) : Prop where
  len : 1 ≤ p.2.1.length ∧ p.2.1.length ≤ 6
  pots : p.2.2.1.length ≤ 4
  eat : p.2.2.2.1.length ≤ 10
  ords : p.2.2.2.2.1.length ≤ 5 ∧ ∀ o ∈ p.2.2.2.2.1, OG o
  looks : p.2.2.2.2.2.1.length ≤ 10
  guards : p.2.2.2.2.2.2.length ≤ 10
theorem pool_ok {l : List Int} {n : Nat} (h : At n l) (hn : n ≤ 30000) (seed : Int) (hs : 0 ≤ seed ∧ seed < 1000000000000) (k : Int) (hk : 0 ≤ k ∧ k < 6) (os : List Nm) (most : Int) (hq : 1 ≤ most ∧ most ≤ 5) : Ok (n_law_pool ns l seed k os most) fun r => (PO r.1 ∧ n_law_name seed (10 * k) = some r.1.1) ∧ At (n + 300) r.2 := by
  unfold n_law_pool
  refine ok_bind (next_ok hb h (by omega)) fun x1 h1 => ?_
  obtain ⟨⟨d10, d11⟩, a1⟩ := h1
  refine ok_eq (rng1_eq (by omega) (by omega)) ?_
  refine ok_bind (ok_fold0 (fun pre (st : (List Int) × (List TSII)) => At (n + 1 + 2 * pre.length) st.1 ∧ st.2.length = pre.length) ⟨a1, rfl⟩ fun pre x post st e hi => ?_) fun s13 h13 => ?_
  · have hl := congrArg List.length e
    rw [rngN_len, List.length_append, List.length_cons] at hl
    have hx := rngN_mem (show x ∈ rngN 0 (1 + x1.1 % 6).toNat by rw [e]; simp)
    refine ok_bind (next_ok hb hi.1 (by omega)) fun x7 h7 => ?_
    refine ok_bind (coins_ok _ h7.1.1) fun x8 _ => ?_
    refine ok_bind (name_ok seed _ hs (by omega)) fun x9 _ => ?_
    refine ok_bind (next_ok hb h7.2 (by omega)) fun x10 h10 => ?_
    refine ok_bind (coins_ok _ h10.1.1) fun x11 _ => ?_
    refine ok_eq (push_eq (by omega)) (ok_some ⟨h10.2.up (by rw [List.length_append]; simp; omega), by rw [List.length_append, List.length_append, hi.2]; rfl⟩)
  rw [rngN_len] at h13
  have hc : 1 ≤ s13.2.length ∧ s13.2.length ≤ 6 := by omega
  refine ok_eq (rng1_eq (by omega) (by omega)) ?_
  refine ok_bind (ok_compS (fun i s => At (n + 1 + 2 * (1 + x1.1 % 6).toNat + i) s) (R := fun _ => True) (by rw [rngN_len]; omega) h13.1 fun x hx i s hi ha => ?_) fun x20 h20 => ?_
  · rw [rngN_len] at hi
    have hx := rngN_mem hx
    refine ok_bind (name_ok seed _ hs (by omega)) fun x17 _ => ?_
    refine ok_bind (next_ok hb ha (by omega)) fun x18 h18 => ?_
    exact ok_bind (coins_ok _ h18.1.1) fun x19 _ => ok_some ⟨trivial, h18.2⟩
  rw [rngN_len] at h20
  refine ok_bind (ok_mod (by omega)) fun x21 h21 => ?_
  refine ok_eq (rng1_eq (by omega) (by omega)) ?_
  refine ok_bind (ok_compO (R := fun _ _ => True) (by rw [rngN_len]; omega) fun x _ => ?_) fun c26 h26 => ?_
  · refine ok_bind (ok_mod (by omega)) fun z hz => ?_
    exact ok_bind (ok_atI (R := fun _ => True) hz.1 hz.2 fun _ _ => trivial) fun _ _ => ok_some trivial
  rw [rngN_len] at h26
  refine ok_bind (orders_ok hb (h20.2.2.up (m := n + 30) (by omega)) (by omega) seed hs x20.1 os most hq hc) fun x27 h27 => ?_
  obtain ⟨⟨o1, o2, o3⟩, a27⟩ := h27
  refine ok_eq (rng1_eq (by omega) (by omega)) ?_
  refine ok_bind (ok_fold0 (fun pre (st : (List Int) × (List TSIS)) => At (n + 30 + 200 + pre.length) st.1 ∧ st.2.length = pre.length) ⟨a27, rfl⟩ fun pre x post st e hi => ?_) fun s39 h39 => ?_
  · have hl := congrArg List.length e
    rw [rngN_len, List.length_append, List.length_cons] at hl
    refine ok_bind (next_ok hb hi.1 (by omega)) fun x33 h33 => ?_
    refine ok_bind (ok_mod (by omega)) fun z hz => ?_
    refine ok_bind (ok_atI (R := fun _ => True) hz.1 hz.2 fun _ _ => trivial) fun x35 _ => ?_
    refine ok_bind (ok_mod (by omega)) fun z2 hz2 => ?_
    refine ok_bind (ok_atI (R := fun _ => True) hz2.1 hz2.2 fun _ _ => trivial) fun x37 _ => ?_
    refine ok_eq (push_eq (by omega)) (ok_some ⟨h33.2.up (by rw [List.length_append]; simp; omega), by rw [List.length_append, List.length_append, hi.2]; rfl⟩)
  rw [rngN_len] at h39
  refine ok_bind (guards_ok hb (h39.1.up (m := n + 240) (by omega)) (by omega) hc.2 o2 o3) fun x40 h40 => ?_
  obtain ⟨w, hw, _⟩ := name_ok seed (10 * k) hs (by omega)
  refine ok_eq hw (ok_some ⟨⟨⟨hc, by show x20.1.length ≤ 4; omega, by show c26.length ≤ 10; omega, ⟨o2, o3⟩, by show s39.2.length ≤ 10; omega, by show x40.1.length ≤ 10; omega⟩, hw⟩, h40.2.up (by omega)⟩)
end
end K53
set_option Elab.async false
set_option linter.all false
set_option maxRecDepth 100000
set_option maxHeartbeats 1000000
namespace K53
open PySem PySem.Spec PyProof.Rows L2 DL
open DK (Rl)
structure DO (ps : List R3) : Prop where
  len : 1 ≤ ps.length ∧ ps.length ≤ 6
  all : ∀ p ∈ ps, PO p
  sok : ∀ p ∈ ps, Sok p.1
  nd : (ps.map (·.1)).Nodup
theorem nodup_range {seed : Int} (hs : 0 ≤ seed ∧ seed < 1000000000000) {ps : List R3} (hl : ps.length ≤ 6) (h : ∀ (i : Nat) p, ps[i]? = some p → n_law_name seed (10 * (i : Int)) = some p.1) : (ps.map (·.1)).Nodup := by
  unfold List.Nodup
  rw [List.pairwise_iff_getElem]
  intro i j hi hj hij
  rw [List.length_map] at hi hj
  rw [List.getElem_map, List.getElem_map]
  exact name_ne seed hs (i := i) (j := j) ⟨by omega, by omega⟩ ⟨by omega, by omega⟩ (by omega) (h i _ (List.getElem?_eq_getElem hi)) (h j _ (List.getElem?_eq_getElem hj))
theorem compG_any {α β : Type} {f : α → Option (Option β)} {xs : List α} (hl : xs.length ≤ 1000000) (h : ∀ x ∈ xs, Ok (f x) fun _ => True) : Ok (compG f xs) fun _ => True := by
  unfold compG
  rw [if_pos hl]
  clear hl
  induction xs with
  | nil => exact ok_some trivial
  | cons x xs ih =>
    obtain ⟨o, e, _⟩ := h x (by simp)
    obtain ⟨ys, e2, _⟩ := ih fun y hy => h y (by simp [hy])
    show Ok ((f x).bind _) _
    rw [e, bindS]
    cases o with
    | none => exact ⟨ys, e2, trivial⟩
    | some y => exact ⟨y :: ys, by show (mapG f xs).map _ = _; rw [e2]; rfl, trivial⟩
section
variable {ns : List Int} (hb : Bt ns)
include hb
theorem deal_ok : Ok (n_law_deal ns) DO := by
  unfold n_law_deal
  refine ok_bind (draw_ok hb 0 (by omega)) fun x1 h1 => ?_
  have hs : 0 ≤ x1 % 1000000000000 ∧ x1 % 1000000000000 < 1000000000000 := ⟨Int.emod_nonneg _ (by omega), Int.emod_lt_of_pos _ (by omega)⟩
  generalize x1 % 1000000000000 = seed at hs
  refine ok_bind (next_ok hb (n := 0) ⟨0, rfl, by omega, by omega⟩ (by omega)) fun x2 h2 => ?_
  refine ok_bind (ok_atI (R := fun m => 1 ≤ m ∧ m ≤ 6) (Int.emod_nonneg _ (by omega)) (Int.emod_lt_of_pos _ (by omega)) fun y hy => ?_) fun x3 h3 => ?_
  · simp only [List.mem_cons, List.not_mem_nil, or_false] at hy
    rcases hy with rfl | rfl | rfl | rfl | rfl | rfl <;> omega
  refine ok_eq (rng1_eq (by omega) (by omega)) ?_
  refine ok_bind (ok_compO (R := fun _ _ => True) (by rw [rngN_len]; omega) fun x hx => ?_) fun c7 h7 => ?_
  · have hx := rngN_mem hx
    exact ok_bind (name_ok seed _ hs (by omega)) fun _ _ => ok_some trivial
  have h7 := h7.1
  rw [rngN_len] at h7
  refine ok_eq (rng1_eq (by omega) (by omega)) ?_
  refine ok_bind (ok_fold0 (fun pre (st : (List Int) × (List R3)) => At (1 + 300 * pre.length) st.1 ∧ st.2.length = pre.length ∧ (∀ p ∈ st.2, PO p) ∧ ∀ (i : Nat) p, st.2[i]? = some p → n_law_name seed (10 * (i : Int)) = some p.1) ⟨h2.2, rfl, by simp, by simp⟩ fun pre x post st e hi => ?_) fun s hs20 => ok_some ?_
  · obtain ⟨hx, hpl⟩ := FA.rngN_pre e
    refine ok_bind (compG_any (by omega) fun y _ => ?_) fun c16 _ => ?_
    · refine ok_bind (ok_atI (R := fun _ => True) (by omega) (by omega) fun _ _ => trivial) fun z _ => ?_
      exact ok_ite (fun _ => ok_some trivial) fun _ => ok_some trivial
    refine ok_bind (ok_atI (R := fun m => 1 ≤ m ∧ m ≤ 5) (by split <;> omega) (by split <;> simp) fun y hy => ?_) fun x17 h17 => ?_
    · simp only [List.mem_cons, List.not_mem_nil, or_false] at hy
      rcases hy with rfl | rfl <;> omega
    refine ok_bind (pool_ok hb hi.1 (by omega) seed hs x (by omega) c16 x17 h17) fun r hr => ?_
    refine ok_eq (push_eq (by omega)) (ok_some ⟨hr.2.up (by rw [List.length_append]; simp; omega), by rw [List.length_append, List.length_append, hi.2.1]; rfl, fun p hp => ?_, fun i p hp => ?_⟩)
    · rcases List.mem_append.mp hp with hp | hp
      · exact hi.2.2.1 p hp
      · rw [List.mem_singleton.mp hp]; exact hr.1.1
    · by_cases c : i < st.2.length
      · exact hi.2.2.2 i p (by rw [← hp]; exact (List.getElem?_append_left c).symm)
      · have hi' : i = st.2.length := by
          have := (List.getElem?_eq_some_iff.mp hp).1
          rw [List.length_append] at this
          simp at this; omega
        subst hi'
        have hp : (st.2 ++ [r.1])[st.2.length]? = some p := hp
        rw [List.getElem?_append_right (Nat.le_refl _), Nat.sub_self] at hp
        cases hp
        rw [hi.2.1, ← hx]
        exact hr.1.2
  · rw [rngN_len] at hs20
    obtain ⟨_, q1, q2, q3⟩ := hs20
    refine ⟨by show 1 ≤ s.2.length ∧ s.2.length ≤ 6; omega, q2, fun p hp => ?_, nodup_range hs (by omega) q3⟩
    obtain ⟨i, hi, e⟩ := List.getElem_of_mem hp
    have := q3 i p (by rw [List.getElem?_eq_getElem hi, e])
    obtain ⟨w, hw, hsok⟩ := name_ok seed (10 * (i : Int)) hs (by omega)
    rw [this] at hw
    cases hw
    exact hsok
theorem income_ok (n : Int) : Ok (n_law_income n) fun _ => True := by
  unfold n_law_income
  exact ok_dite (fun _ => ok_some trivial) fun _ => ok_dite (fun _ => ok_some trivial) fun _ => ok_dite (fun _ => ok_some trivial) fun _ => ok_dite (fun _ => ok_some trivial) fun _ => ok_some trivial
theorem loss_ok (n : Int) : Ok (n_law_loss n) fun _ => True := by
  unfold n_law_loss
  exact ok_dite (fun _ => ok_some trivial) fun _ => ok_dite (fun _ => ok_some trivial) fun _ => ok_dite (fun _ => ok_some trivial) fun _ => ok_some trivial
theorem days_ok {ps : List R3} (hp : ps.length ≤ 6) : Ok (n_law_days ns ps) fun ds => ds.length ≤ 6 ∧ ∀ d ∈ ds, d.1.length = ps.length ∧ d.2.length = ps.length := by
  unfold n_law_days
  refine ok_bind (draw_ok hb 690 (by omega)) fun x1 h1 => ?_
  refine ok_eq (rng1_eq (by omega) (by omega)) ?_
  refine ok_bind (ok_fold0 (fun pre (st : List R4) => st.length = pre.length ∧ ∀ d ∈ st, d.1.length = ps.length ∧ d.2.length = ps.length) ⟨rfl, by simp⟩ fun pre x post st e hi => ?_) fun s hs => ok_some ⟨by rw [hs.1, rngN_len]; omega, hs.2⟩
  have hl := congrArg List.length e
  rw [rngN_len, List.length_append, List.length_cons] at hl
  have hx := rngN_mem (show x ∈ rngN 0 (x1 % 7).toNat by rw [e]; simp)
  refine ok_eq (rng1_eq (by omega) (by omega)) ?_
  refine ok_bind (ok_compO (R := fun _ _ => True) (by rw [rngN_len]; omega) fun y hy => ?_) fun c13 h13 => ?_
  · have hy := rngN_mem hy
    exact ok_bind (draw_ok hb _ (by omega)) fun z _ => ok_bind (income_ok hb z) fun _ _ => ok_some trivial
  refine ok_eq (rng1_eq (by omega) (by omega)) ?_
  refine ok_bind (ok_compO (R := fun _ _ => True) (by rw [rngN_len]; omega) fun y hy => ?_) fun c18 h18 => ?_
  · have hy := rngN_mem hy
    exact ok_bind (draw_ok hb _ (by omega)) fun z _ => ok_bind (loss_ok hb z) fun _ _ => ok_some trivial
  have h13 := h13.1
  have h18 := h18.1
  rw [rngN_len] at h13 h18
  refine ok_eq (push_eq (by omega)) (ok_some ⟨by rw [List.length_append, List.length_append, hi.1]; rfl, fun d hd => ?_⟩)
  rcases List.mem_append.mp hd with hd | hd
  · exact hi.2 d hd
  · rw [List.mem_singleton.mp hd]
    exact ⟨by show c13.length = ps.length; omega, by show c18.length = ps.length; omega⟩
theorem more_ok {ps : List R3} (hp : DO ps) {ds : List R4} (hd : ds.length ≤ 6) : Ok (n_law_more ns ps ds) fun rs => rs.length ≤ 7 ∧ ∀ r ∈ rs, Sok r.2.1 := by
  unfold n_law_more
  have h6 := hp.len
  refine ok_bind (draw_ok hb 850 (by omega)) fun x1 h1 => ?_
  refine ok_eq (rng1_eq (by omega) (by omega)) ?_
  refine ok_bind (ok_fold0 (fun pre (st : List TISI) => st.length = pre.length ∧ ∀ r ∈ st, Sok r.2.1) ⟨rfl, by simp⟩ fun pre x post st e hi => ?_) fun s hs => ok_some ⟨by rw [hs.1, rngN_len]; omega, hs.2⟩
  have hl := congrArg List.length e
  rw [rngN_len, List.length_append, List.length_cons] at hl
  have hx := rngN_mem (show x ∈ rngN 0 (x1 % 8).toNat by rw [e]; simp)
  refine ok_bind (draw_ok hb _ (by omega)) fun x10 h10 => ?_
  refine ok_bind (ok_mod (by omega)) fun x11 h11 => ?_
  refine ok_bind (ok_atI (R := fun p => Sok p.1) h11.1 h11.2 hp.sok) fun x12 h12 => ?_
  refine ok_bind (Q := Sok) ?_ fun nm hnm => ?_
  · refine ok_dite (fun _ => ?_) fun _ => ok_some h12
    refine ok_bind (draw_ok hb 0 (by omega)) fun x13 h13 => ?_
    exact ok_bind (name_ok _ 601 ⟨Int.emod_nonneg _ (by omega), Int.emod_lt_of_pos _ (by omega)⟩ (by omega)) fun w hw => ok_some hw
  refine ok_bind (ok_mod (by omega)) fun x16 h16 => ?_
  refine ok_bind (ok_atI (R := fun _ => True) (Int.emod_nonneg _ (by omega)) (Int.emod_lt_of_pos _ (by simp)) fun _ _ => trivial) fun x17 _ => ?_
  refine ok_eq (push_eq (by omega)) (ok_some ⟨by rw [List.length_append, List.length_append, hi.1]; rfl, fun r hr => ?_⟩)
  rcases List.mem_append.mp hr with hr | hr
  · exact hi.2 r hr
  · rw [List.mem_singleton.mp hr]; exact hnm
end
end K53
set_option Elab.async false
set_option linter.all false
set_option maxRecDepth 100000
set_option maxHeartbeats 1000000
namespace K53
open PySem PySem.Spec PyProof.Rows L2 DL
open DK (Rl)
def inc (ds : List R4) (d : Nat) : List Int := (ds.getD d ([], [])).1
def los (ds : List R4) (d k : Nat) : Int := (ds.getD d ([], [])).2.getD k 0
def tab (ds : List R4) (m : Nat) (f : Nat → Nat → Int) : List R4 := (List.range ds.length).map fun d => (inc ds d, (List.range m).map (f d))
def rs (ps : List R3) (rows : List TISI) (d k : Nat) : Int := (rows.map fun r => if r.1 = (d : Int) + 1 ∧ r.2.1 = (ps.getD k ([], [], [], [], [], [], [])).1 then r.2.2 else 0).sum
theorem rs_snoc (ps : List R3) (rows : List TISI) (r : TISI) (d k : Nat) : rs ps (rows ++ [r]) d k = rs ps rows d k + if r.1 = (d : Int) + 1 ∧ r.2.1 = (ps.getD k ([], [], [], [], [], [], [])).1 then r.2.2 else 0 := by
  unfold rs
  rw [List.map_append, List.sum_append]; simp
theorem tab_len (ds : List R4) (m : Nat) (f : Nat → Nat → Int) : (tab ds m f).length = ds.length := by unfold tab; rw [List.length_map, List.length_range]
theorem range_getD {α : Type} (z : α) (xs : List α) : (List.range xs.length).map (fun i => xs.getD i z) = xs := by
  apply List.ext_getElem
  · rw [List.length_map, List.length_range]
  · intro i h1 h2
    rw [List.getElem_map, List.getElem_range, List.getD_eq_getElem?_getD, List.getElem?_eq_getElem h2]; rfl
theorem tab_self {ds : List R4} {m : Nat} (h : ∀ d ∈ ds, d.2.length = m) : tab ds m (los ds) = ds := by
  unfold tab
  have e := range_getD (([], []) : R4) ds
  refine Eq.trans (List.map_congr_left fun d hd => ?_) e
  have hd := List.mem_range.mp hd
  have hm : (ds.getD d ([], [])) ∈ ds := by
    rw [List.getD_eq_getElem?_getD, List.getElem?_eq_getElem hd]; exact List.getElem_mem hd
  have := h _ hm
  show (inc ds d, (List.range m).map (los ds d)) = ds.getD d ([], [])
  rw [← this]
  have e2 := range_getD (0 : Int) (ds.getD d ([], [])).2
  show ((ds.getD d ([], [])).1, (List.range (ds.getD d ([], [])).2.length).map (fun k => (ds.getD d ([], [])).2.getD k 0)) = _
  rw [e2]
theorem range_set {α : Type} (g : Nat → α) (n i : Nat) (v : α) : ((List.range n).map g).set i v = (List.range n).map fun x => if x = i then v else g x := by
  apply List.ext_getElem
  · simp
  · intro j h1 h2
    rw [List.getElem_set]
    simp only [List.getElem_map, List.getElem_range]
    by_cases c : i = j
    · subst c; simp
    · have c2 : ¬ j = i := fun e => c e.symm
      simp [c, c2]
theorem tab_at {ds : List R4} {m : Nat} {f : Nat → Nat → Int} {d : Nat} (h : d < ds.length) : (tab ds m f)[d]? = some (inc ds d, (List.range m).map (f d)) := by
  unfold tab
  rw [List.getElem?_map, List.getElem?_range h]; rfl
theorem tab_set {ds : List R4} {m : Nat} {f : Nat → Nat → Int} {d0 k0 : Nat} {c : Int} : (tab ds m f).set d0 (inc ds d0, ((List.range m).map (f d0)).set k0 (f d0 k0 + c)) = tab ds m fun d k => f d k + if d = d0 ∧ k = k0 then c else 0 := by
  unfold tab
  rw [range_set, range_set]
  refine List.map_congr_left fun d _ => ?_
  by_cases e : d = d0
  · subst e
    rw [if_pos rfl]
    congr 1
    refine List.map_congr_left fun k _ => ?_
    by_cases e2 : k = k0
    · subst e2
      show (if k = k then f d k + c else f d k) = f d k + if d = d ∧ k = k then c else 0
      rw [if_pos rfl, if_pos ⟨rfl, rfl⟩]
    · show (if k = k0 then _ else f d k) = f d k + if d = d ∧ k = k0 then c else 0
      rw [if_neg e2, if_neg (fun h => e2 h.2), Int.add_zero]
  · rw [if_neg e]
    congr 1
    refine List.map_congr_left fun k _ => ?_
    show f d k = f d k + if d = d0 ∧ k = k0 then c else 0
    rw [if_neg (fun h => e h.1), Int.add_zero]
theorem tab_congr {ds : List R4} {m : Nat} {f g : Nat → Nat → Int} (h : ∀ d k, d < ds.length → k < m → f d k = g d k) : tab ds m f = tab ds m g := by
  unfold tab
  refine List.map_congr_left fun d hd => ?_
  congr 1
  exact List.map_congr_left fun k hk => h d k (List.mem_range.mp hd) (List.mem_range.mp hk)
theorem at_ok {ps : List R3} (hp : DO ps) : Ok (fold (fun (x2 : R5) (s1 : (List (Nm × Int))) =>
  (putK s1 x2.2.1 x2.1).bind fun x5 =>
  some x5) (enumN 0 ps) ([] : List (Nm × Int))) fun s => ∀ nm v, lkN s nm = some v ↔ ∃ x ∈ enumN 0 ps, x.2.1 = nm ∧ x.1 = v := by
  refine ok_imp (ok_fold0 (fun pre (s : List (Nm × Int)) => s.length ≤ pre.length ∧ ∀ nm v, lkN s nm = some v ↔ ∃ x ∈ pre, x.2.1 = nm ∧ x.1 = v) ⟨by simp, fun nm v => by simp [lk_nil]⟩ fun pre x post s e hi => ?_) fun s hs => hs.2
  have hl := congrArg List.length e
  rw [enumN_len, List.length_append, List.length_cons] at hl
  have h6 := hp.len
  have hnd : x.2.1 ∉ pre.map (fun y : R5 => y.2.1) := by
    have := hp.nd
    rw [← enumN_snd 0 ps, e, List.map_map, List.map_append, List.map_cons, List.nodup_append] at this
    intro h
    exact this.2.2 _ h _ List.mem_cons_self rfl
  refine ok_eq (FA.putK_eq (by omega)) (ok_some ⟨?_, fun nm v => ?_⟩)
  · have := FA.putN_len s x.2.1 x.1
    rw [List.length_append]; simp; omega
  · rw [lk_put]
    by_cases c : nm = x.2.1
    · rw [if_pos c]
      constructor
      · intro h; cases h; exact ⟨x, by simp, c.symm, rfl⟩
      · rintro ⟨y, hy, e1, e2⟩
        rcases List.mem_append.mp hy with hy | hy
        · exact absurd (List.mem_map.mpr ⟨y, hy, by rw [e1, c]⟩) hnd
        · rw [List.mem_singleton.mp hy] at e2; rw [e2]
    · rw [if_neg c, hi.2 nm v]
      constructor
      · rintro ⟨y, hy, h⟩; exact ⟨y, List.mem_append_left _ hy, h⟩
      · rintro ⟨y, hy, e1, e2⟩
        rcases List.mem_append.mp hy with hy | hy
        · exact ⟨y, hy, e1, e2⟩
        · rw [List.mem_singleton.mp hy] at e1; exact absurd e1.symm c
theorem enum_get {α : Type} (z : α) : ∀ (k : Nat) (xs : List α) (x : Int × α), x ∈ enumN k xs → ∃ i : Nat, i < xs.length ∧ x = (((k + i : Nat) : Int), xs.getD i z)
  | _, [], x, h => by cases h
  | k, y :: xs, x, h => by
    rw [enumN] at h
    rcases List.mem_cons.mp h with rfl | h
    · exact ⟨0, by simp, rfl⟩
    · obtain ⟨i, hi, e⟩ := enum_get z (k + 1) xs x h
      exact ⟨i + 1, by simp; exact hi, by rw [e, show k + 1 + i = k + (i + 1) by omega]; rfl⟩
theorem enum_mk {α : Type} (z : α) : ∀ (k : Nat) (xs : List α) (i : Nat), i < xs.length → (((k + i : Nat) : Int), xs.getD i z) ∈ enumN k xs
  | _, [], i, h => by simp at h
  | k, y :: xs, 0, h => by rw [enumN]; exact List.mem_cons_self
  | k, y :: xs, i + 1, h => by
    rw [enumN]
    have := enum_mk z (k + 1) xs i (by simpa using h)
    rw [show k + 1 + i = k + (i + 1) by omega] at this
    exact List.mem_cons_of_mem _ this
theorem added_eq {ps : List R3} (hp : DO ps) {ds : List R4} (hd : ds.length ≤ 6) (hm : ∀ d ∈ ds, d.2.length = ps.length) (rows : List TISI) : n_added_losses ps ds rows = some (tab ds ps.length fun d k => los ds d k + rs ps rows d k) := by
  refine ok_fin ?_
  unfold n_added_losses
  refine ok_bind (at_ok hp) fun s6 h6 => ?_
  refine ok_eq (compT_eq (by omega)) ?_
  have e0 : (ds.map fun x7 : R4 => (x7.1, x7.2)) = tab ds ps.length (los ds) := by rw [tab_self hm]; exact List.map_id' ds
  rw [e0]
  refine ok_bind (ok_fold0 (fun pre (s : List R4) => s = tab ds ps.length fun d k => los ds d k + rs ps pre d k) (tab_congr fun d k _ _ => by show los ds d k = los ds d k + 0; omega) fun pre r post s e hi => ?_) fun s hs => ok_some hs
  subst hi
  have hlen : ((tab ds ps.length fun d k => los ds d k + rs ps pre d k).length : Int) = ds.length := by rw [tab_len]
  rw [hlen]
  have uniq : ∀ (i j : Nat), i < ps.length → j < ps.length → (ps.getD i ([], [], [], [], [], [], [])).1 = (ps.getD j ([], [], [], [], [], [], [])).1 → i = j := fun i j hi hj h => by
    have nd := hp.nd
    rw [List.getD_eq_getElem?_getD, List.getElem?_eq_getElem hi, List.getD_eq_getElem?_getD, List.getElem?_eq_getElem hj] at h
    have h : (ps.map (·.1))[i]'(by rw [List.length_map]; exact hi) = (ps.map (·.1))[j]'(by rw [List.length_map]; exact hj) := by rw [List.getElem_map, List.getElem_map]; exact h
    unfold List.Nodup at nd
    rw [List.pairwise_iff_getElem] at nd
    rcases Nat.lt_trichotomy i j with c | c | c
    · exact absurd h (nd i j _ _ c)
    · exact c
    · exact absurd h.symm (nd j i _ _ c)
  cases hlk : lkN s6 r.2.1 with
  | none =>
    rw [if_neg (by simp)]
    refine ok_some (tab_congr fun d k hd2 hk => ?_)
    rw [rs_snoc, if_neg, Int.add_zero]
    rintro ⟨_, hn⟩
    have := (h6 r.2.1 (k : Int)).mpr ⟨_, by have := enum_mk (([], [], [], [], [], [], []) : R3) 0 ps k hk; rwa [Nat.zero_add] at this, hn.symm, rfl⟩
    rw [hlk] at this; cases this
  | some v =>
    obtain ⟨x, hx, hx1, hx2⟩ := (h6 _ _).mp hlk
    obtain ⟨j, hj, ex⟩ := enum_get (([], [], [], [], [], [], []) : R3) 0 ps x hx
    rw [Nat.zero_add] at ex
    subst ex
    have hv : v = (j : Int) := hx2.symm
    subst hv
    have hx1 : (ps.getD j ([], [], [], [], [], [], [])).1 = r.2.1 := hx1
    by_cases c : 1 ≤ r.1 ∧ r.1 ≤ (ds.length : Int)
    · rw [if_pos (by simp [bLe, c.1, c.2])]
      have hd0 : (r.1 - 1).toNat < ds.length := by omega
      refine ok_eq (v := (r.1 - 1).toNat) (by rw [tab_len]; unfold ixN; rw [if_pos (by omega), if_pos (by omega)]) ?_
      refine ok_eq (tab_at hd0) ?_
      refine ok_eq rfl ?_
      have ha : addI ((List.range ps.length).map fun k => los ds (r.1 - 1).toNat k + rs ps pre (r.1 - 1).toNat k) (j : Int) r.2.2 = some (((List.range ps.length).map fun k => los ds (r.1 - 1).toNat k + rs ps pre (r.1 - 1).toNat k).set j ((los ds (r.1 - 1).toNat j + rs ps pre (r.1 - 1).toNat j) + r.2.2)) := by
        have hix : ixN ((List.range ps.length).map fun k => los ds (r.1 - 1).toNat k + rs ps pre (r.1 - 1).toNat k).length (j : Int) = some j := by
          rw [List.length_map, List.length_range]; unfold ixN; rw [if_pos (by omega), if_pos (by omega)]; rfl
        unfold addI
        rw [if_pos (by omega)]
        unfold atI putI
        rw [hix]
        show Option.bind (((List.range ps.length).map fun k => los ds (r.1 - 1).toNat k + rs ps pre (r.1 - 1).toNat k)[j]?) _ = _
        rw [List.getElem?_map, List.getElem?_range hj]; rfl
      refine ok_eq ha ?_
      refine ok_eq (show setN _ _ _ = some _ from if_pos (by rw [tab_len]; exact hd0)) (ok_some ?_)
      have := tab_set (ds := ds) (m := ps.length) (f := fun d k => los ds d k + rs ps pre d k) (d0 := (r.1 - 1).toNat) (k0 := j) (c := r.2.2)
      refine Eq.trans this (tab_congr fun d k hd2 hk => ?_)
      rw [rs_snoc]
      by_cases q : d = (r.1 - 1).toNat ∧ k = j
      · rw [if_pos q, if_pos ⟨by omega, by rw [q.2]; exact hx1.symm⟩, Int.add_assoc]
      · rw [if_neg q, if_neg (fun h => q ⟨by omega, uniq k j hk hj (by rw [hx1]; exact h.2.symm)⟩), Int.add_zero, Int.add_zero]
    · rw [if_neg (by
        have : (bLe (1 : Int) r.1 && bLe r.1 (ds.length : Int)) = false := by
          cases hbb : (bLe (1 : Int) r.1 && bLe r.1 (ds.length : Int)) with
          | false => rfl
          | true =>
            rw [Bool.and_eq_true] at hbb
            exact absurd ⟨of_decide_eq_true hbb.1, of_decide_eq_true hbb.2⟩ c
        rw [this]; simp)]
      refine ok_some (tab_congr fun d k hd2 hk => ?_)
      rw [rs_snoc, if_neg (fun h => c ⟨by omega, by omega⟩), Int.add_zero]
theorem atI_get {α : Type} {xs : List α} {i : Nat} (z : α) (h : i < xs.length) : atI xs (i : Int) = some (xs.getD i z) := by
  unfold atI ixN
  rw [if_pos (by omega), if_pos (by omega)]
  show xs[(i : Int).toNat]? = _
  rw [show ((i : Int).toNat) = i from rfl, List.getD_eq_getElem?_getD, List.getElem?_eq_getElem h]; rfl
theorem sum_sel (q : TISI → Bool) : ∀ rows : List TISI, ((rows.filter q).map fun r => r.2.2).sum = (rows.map fun r => if q r = true then r.2.2 else 0).sum
  | [] => rfl
  | r :: rows => by
    rw [List.map_cons, List.sum_cons, ← sum_sel q rows]
    cases h : q r with
    | true => rw [List.filter_cons_of_pos h, List.map_cons, List.sum_cons, if_pos rfl]
    | false => rw [List.filter_cons_of_neg (by rw [h]; simp), if_neg (by simp), Int.zero_add]
theorem due_eq {ps : List R3} (hp : DO ps) {ds : List R4} (hd : ds.length ≤ 6) (hm : ∀ d ∈ ds, d.2.length = ps.length) {rows : List TISI} (hr : rows.length ≤ 7) : n_law_due ps ds rows = some (tab ds ps.length fun d k => los ds d k + rs ps rows d k) := by
  refine ok_fin ?_
  unfold n_law_due
  have h6 := hp.len
  refine ok_eq (rng1_eq (by omega) (by omega)) ?_
  refine ok_bind (ok_fold0 (fun pre (s : List R4) => s = (List.range pre.length).map fun d => (inc ds d, (List.range ps.length).map fun k => los ds d k + rs ps rows d k)) rfl fun pre x post s e hi => ?_) fun s hs => ok_some ?_
  · obtain ⟨hx, hpl⟩ := FA.rngN_pre e
    have hpl : pre.length < ds.length := by omega
    subst hx
    subst hi
    refine ok_eq (rng1_eq (by omega) (by omega)) ?_
    refine ok_bind (ok_fold0 (fun pre2 (t : List Int) => t = (List.range pre2.length).map fun k => los ds pre.length k + rs ps rows pre.length k) rfl fun pre2 y post2 t e2 hi2 => ?_) fun t ht => ?_
    · obtain ⟨hy, hpl2⟩ := FA.rngN_pre e2
      have hpl2 : pre2.length < ps.length := by omega
      subst hy
      subst hi2
      refine ok_eq (compG_eq (p := fun r : TISI => decide (r.1 = (pre.length : Int) + 1) && decide (r.2.1 = (ps.getD pre2.length ([], [], [], [], [], [], [])).1)) (g := fun r : TISI => r.2.2) (by omega) fun r _ => ?_) ?_
      · by_cases c : r.1 = (pre.length : Int) + 1
        · rw [if_pos (decide_eq_true c), atI_get (([], [], [], [], [], [], []) : R3) hpl2, bindS, bindS, decide_eq_true c, Bool.true_and]
          by_cases c2 : r.2.1 = (ps.getD pre2.length ([], [], [], [], [], [], [])).1
          · rw [if_pos (decide_eq_true c2), if_pos (decide_eq_true c2)]
          · rw [if_neg (by rw [decide_eq_false c2]; simp), if_neg (by rw [decide_eq_false c2]; simp)]
        · rw [if_neg (by rw [decide_eq_false c]; simp), bindS, if_neg (by simp), if_neg (by rw [decide_eq_false c]; simp)]
      · refine ok_eq (atI_get (([], []) : R4) hpl) ?_
        have hdm : (ds.getD pre.length ([], [])).2.length = ps.length := by
          refine hm _ ?_
          rw [List.getD_eq_getElem?_getD, List.getElem?_eq_getElem hpl]; exact List.getElem_mem hpl
        refine ok_eq (atI_get (0 : Int) (by rw [hdm]; exact hpl2)) ?_
        refine ok_eq (push_eq (by rw [List.length_map, List.length_range]; omega)) (ok_some ?_)
        rw [List.length_append, List.length_singleton, List.range_succ, List.map_append, List.map_singleton, sum_sel]
        congr 2
        show los ds pre.length pre2.length + _ = los ds pre.length pre2.length + _
        congr 1
        unfold rs
        congr 1
        refine List.map_congr_left fun r _ => ?_
        by_cases c : r.1 = (pre.length : Int) + 1 ∧ r.2.1 = (ps.getD pre2.length ([], [], [], [], [], [], [])).1
        · rw [if_pos c, if_pos (by rw [decide_eq_true c.1, decide_eq_true c.2]; rfl)]
        · rw [if_neg c, if_neg (fun h => c ?_)]
          rw [Bool.and_eq_true, decide_eq_true_eq, decide_eq_true_eq] at h
          exact h
    · rw [rngN_len] at ht
      subst ht
      refine ok_eq (atI_get (([], []) : R4) hpl) ?_
      refine ok_eq (push_eq (by rw [List.length_map, List.length_range]; omega)) (ok_some ?_)
      rw [List.length_append, List.length_singleton, List.range_succ, List.map_append, List.map_singleton]
      rfl
  · rw [rngN_len] at hs
    rw [hs]; rfl
theorem aInts {n : Nat} {l : List Int} (h : l.length ≤ 1000000) : aOk (n + 1) (eLs D.int l) = true := aL h fun _ _ => aI
theorem aDays {xs : List R4} (hl : xs.length ≤ 6) (h : ∀ d ∈ xs, d.1.length ≤ 1000 ∧ d.2.length ≤ 1000) : aOk 7 (eLs eR4 xs) = true := aL (by omega) fun x hx => aT (by simp) fun d hd => by
  have := h x hx
  simp only [List.mem_cons, List.not_mem_nil, or_false] at hd
  rcases hd with rfl | rfl
  · exact aInts (by omega)
  · exact aInts (by omega)
theorem aRule {n : Nat} {d : D} (h : RD d) : aOk (n + 2) d = true := by
  obtain ⟨r, rfl, hr⟩ := h
  have t2 : ∀ a b : Nm, aOk (n + 2) (.tup [eS a, eS b]) = true := fun a b => aT (by simp) fun d hd => by
    simp only [List.mem_cons, List.not_mem_nil, or_false] at hd
    rcases hd with rfl | rfl <;> exact aS
  cases r with
  | pay c => exact t2 _ _
  | repay c => exact t2 _ _
  | fill c => exact t2 _ _
  | back c => exact t2 _ _
  | rest c => exact t2 _ _
  | lend c x =>
    refine aT (by simp) fun d hd => ?_
    simp only [List.mem_cons, List.not_mem_nil, or_false] at hd
    rcases hd with rfl | rfl | rfl
    · exact aS
    · exact aS
    · exact aI
  | share l =>
    refine aT (by simp) fun d hd => ?_
    simp only [List.mem_cons, List.not_mem_nil, or_false] at hd
    rcases hd with rfl | rfl
    · exact aS
    · refine aT (by rw [List.length_map]; have := hr l rfl; omega) fun d hd => ?_
      obtain ⟨x, _, rfl⟩ := List.mem_map.mp hd
      exact aS
theorem aT2' {n : Nat} {a b : D} (h1 : aOk n a = true) (h2 : aOk n b = true) : aOk (n + 1) (.tup [a, b]) = true := aT (by simp) fun d hd => by
  simp only [List.mem_cons, List.not_mem_nil, or_false] at hd
  rcases hd with rfl | rfl <;> assumption
theorem aT3' {n : Nat} {a b c : D} (h1 : aOk n a = true) (h2 : aOk n b = true) (h3 : aOk n c = true) : aOk (n + 1) (.tup [a, b, c]) = true := aT (by simp) fun d hd => by
  simp only [List.mem_cons, List.not_mem_nil, or_false] at hd
  rcases hd with rfl | rfl | rfl <;> assumption
theorem aDeal {ps : List R3} (h : DO ps) : aOk 7 (eLs eR3 ps) = true := aL (by have := h.len; omega) fun p hp => by
  have q := h.all p hp
  refine aT (by simp) fun d hd => ?_
  simp only [List.mem_cons, List.not_mem_nil, or_false] at hd
  rcases hd with rfl | rfl | rfl | rfl | rfl | rfl | rfl
  · exact aS
  · exact aL (n := 4) (by have := q.len; omega) fun c _ => aT3' aS aI aI
  · exact aL (n := 4) (by have := q.pots; omega) fun c _ => aT2' aS aI
  · exact aL (n := 4) (by have := q.eat; omega) fun c _ => aS
  · refine aL (n := 4) (by have := q.ords.1; omega) fun o ho => ?_
    have qo := q.ords.2 o ho
    exact aT3' aS (aL (n := 2) (by have := qo.parts; omega) fun c _ => aT2' aS aI) (aL (n := 2) (by have := qo.len; omega) fun d hd => aRule (n := 0) (qo.all d hd))
  · exact aL (n := 4) (by have := q.looks; omega) fun c _ => aT3' aS aI aS
  · exact aL (n := 4) (by have := q.guards; omega) fun c _ => aT2' aS aS
theorem law_ok (ns : List Int) (hb : Bt ns) : n_law ns = some true := by
  obtain ⟨ps, e1, hp⟩ := deal_ok hb
  have h6 := hp.len
  obtain ⟨ds, e2, hd, hm⟩ := days_ok hb (ps := ps) h6.2
  obtain ⟨rows, e3, hr, hsok⟩ := more_ok hb hp hd
  have ea := added_eq hp hd (fun d h => (hm d h).2) rows
  have ed := due_eq hp hd (fun d h => (hm d h).2) hr
  have ht : ∀ d ∈ tab ds ps.length (fun d k => los ds d k + rs ps rows d k), d.1.length ≤ 1000 ∧ d.2.length ≤ 1000 := fun d h => by
    unfold tab at h
    obtain ⟨i, hi, rfl⟩ := List.mem_map.mp h
    have hi := List.mem_range.mp hi
    refine ⟨?_, by show ((List.range ps.length).map _).length ≤ 1000; rw [List.length_map, List.length_range]; omega⟩
    show (ds.getD i ([], [])).1.length ≤ 1000
    have := (hm (ds.getD i ([], [])) (by rw [List.getD_eq_getElem?_getD, List.getElem?_eq_getElem hi]; exact List.getElem_mem hi)).1
    omega
  have hlt : (tab ds ps.length (fun d k => los ds d k + rs ps rows d k)).length ≤ 6 := by rw [tab_len]; exact hd
  have es := same_ok (aDays hlt ht)
  have es2 := same_ok (aDays hd fun d h => by have := hm d h; omega)
  have es3 := same_ok (aDeal hp)
  have er : eqQ (eLs eTISI rows) (eLs eTISI rows) = some true := eqQ_refl 4 (by omega) (dL fun x hx => dT3 dI (dS (hsok x hx)) dI)
  generalize tab ds ps.length (fun d k => los ds d k + rs ps rows d k) = tb at ea ed ht hlt es
  have ep : mapO (fun (x13 : R4) => (push x13.1 (1 : Int)).bind fun x15 => (push x13.2 (2 : Int)).bind fun x16 => some (x15, x16)) tb = some (tb.map fun x => (x.1 ++ [1], x.2 ++ [2])) := mapO_eq fun x hx => by
    have := ht x hx
    rw [push_eq (by omega), bindS, push_eq (by omega), bindS]
  unfold n_law
  rw [e1, bindS, e2, bindS, e3, bindS, bindS, ea, bindS, ed, bindS, es, bindS, if_neg (by simp), er, bindS, if_neg (by simp), bindS, es3, bindS, bindS, bindS, if_neg (by simp), ep, bindS, push_eq (by rw [List.length_map, List.length_map]; omega), bindS, es2, bindS, if_pos rfl, bindS, es, bindS, bindS]
theorem law_true (ns : List Int) (hl : ns.length ≤ 63) (hb : ∀ z ∈ ns, Builtin.Int.intBits z ≤ 1048576) : phi_law [.lst (ns.map D.int)] = some (.p (.bl true)) := l_law (r := true) (law_ok ns hb)
end K53
set_option Elab.async false
set_option linter.all false
set_option maxRecDepth 100000
set_option maxHeartbeats 4000000
open PySem PySem.W PyProof.Rows
set_option maxHeartbeats 0 in
theorem PySem.Challenge.cw_tranchefall_k53_losses_added_holds : PySem.Challenge.rw_tranchefall_k53_losses_added.Holds := by
  w_on; o_law; k_head; (case hw => w_witness2)
  k_fill
  refine DL.walk_D (l := PySem.Challenge.rw_tranchefall_k53_losses_added) (n := 63) (k := 10) (x := "_law_script") (φ := K53.phi_law) rfl (by decide) rfl ⟨rfl, by decide, by decide⟩ (fun w h Y => PySem.W.kIn_of Y) ?F K53.law_true
  case F =>
    intro w mg fa h KX G hmg
    refine' K53.all_mk KX G hmg ?a1 ?l1 ?c1 ?k1 ?a2 ?l2 ?c2 ?k2 ?a3 ?l3 ?c3 ?k3 ?a4 ?l4 ?c4 ?k4 ?a5 ?l5 ?c5 ?k5 ?a6 ?l6 ?c6 ?k6 ?a7 ?l7 ?c7 ?k7 ?a8 ?l8 ?c8 ?k8 ?a9 ?l9 ?c9 ?k9 ?a10 ?l10 ?c10 ?k10 ?a11 ?l11 ?c11 ?k11 ?a12 ?l12 ?c12 ?k12 ?a13 ?l13 ?c13 ?k13 ?a14 ?l14 ?c14 ?k14 ?a15 ?l15 ?c15 ?k15 ?a16 ?l16 ?c16 ?k16 ?a17 ?l17 ?c17 ?k17 ?a18 ?l18 ?c18 ?k18 ?a19 ?l19 ?c19 ?k19 ?a20 ?l20 ?c20 ?k20 ?z1 ?z2 ?z3 ?z4 ?z5 ?z6 ?z7 ?z8 ?z9 ?z10 ?z11 ?z12
    (case a1 => k_is); (case l1 => k_is); (case c1 => k_is); (case k1 => k_is); (case a2 => k_is); (case l2 => k_is); (case c2 => k_is); (case k2 => k_is); (case a3 => k_is); (case l3 => k_is); (case c3 => k_is); (case k3 => k_is); (case a4 => k_is); (case l4 => k_is); (case c4 => k_is); (case k4 => k_is); (case a5 => k_is); (case l5 => k_is); (case c5 => k_is); (case k5 => k_is); (case a6 => k_is); (case l6 => k_is); (case c6 => k_is); (case k6 => k_is); (case a7 => k_is); (case l7 => k_is); (case c7 => k_is); (case k7 => k_is); (case a8 => k_is); (case l8 => k_is); (case c8 => k_is); (case k8 => k_is); (case a9 => k_is); (case l9 => k_is); (case c9 => k_is); (case k9 => k_is); (case a10 => k_is); (case l10 => k_is); (case c10 => k_is); (case k10 => k_is); (case a11 => k_is); (case l11 => k_is); (case c11 => k_is); (case k11 => k_is); (case a12 => k_is); (case l12 => k_is); (case c12 => k_is); (case k12 => k_is); (case a13 => k_is); (case l13 => k_is); (case c13 => k_is); (case k13 => k_is); (case a14 => k_is); (case l14 => k_is); (case c14 => k_is); (case k14 => k_is); (case a15 => k_is); (case l15 => k_is); (case c15 => k_is); (case k15 => k_is); (case a16 => k_is); (case l16 => k_is); (case c16 => k_is); (case k16 => k_is); (case a17 => k_is); (case l17 => k_is); (case c17 => k_is); (case k17 => k_is); (case a18 => k_is); (case l18 => k_is); (case c18 => k_is); (case k18 => k_is); (case a19 => k_is); (case l19 => k_is); (case c19 => k_is); (case k19 => k_is); (case a20 => k_is); (case l20 => k_is); (case c20 => k_is); (case k20 => k_is); (case z1 => k_is); (case z2 => k_is); (case z3 => k_is); (case z4 => k_is); (case z5 => k_is); (case z6 => k_is); (case z7 => k_is); (case z8 => k_is); (case z9 => k_is); (case z10 => k_is); (case z11 => k_is); (case z12 => k_is)
