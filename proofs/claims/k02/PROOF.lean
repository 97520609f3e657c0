import PyProof.Rows.All
import Wide.All
import OpenK.AllK
import Wide.FinOn
import KE.KStateDown
import HandS.ForMost
import HandS.Defaults
import HandS.More
import HandS.Flow
import HandS.Wide
import HandS.TupAny
import HandS.TupMul
import HandS.Zip
import HandS.Conv
import HandS.DictComp
import HandS.DictTup
import HandS.IsInst
import HandS.WordsExc
import HandS.Head0
import HandS.Head1
import HandS.Head2
import HandS.HeadEnd
import HandS.HeadHook1
import HandS.HeadHook2
import KE.DataFind
import KE.GoesMore
import KE.GoesEnum
import KE.GoesZip
import HandS.Style
import HandS.TupLen
import PySem.Challenge.RW_roundfair_k02_dues_and_gaps_by_hand
set_option Elab.async false
set_option linter.all false
set_option maxRecDepth 100000
set_option maxHeartbeats 4000000
set_option autoImplicit false
/-! Data, worlds, and a small logic of evaluation over the hand layer's readings. -/
namespace RF
open PySem L2

/-- plain data -/
inductive D where
  | non
  | bl (b : Bool)
  | int (i : Int)
  | str (s : Str)
  | lst (xs : List D)
  | tup (xs : List D)
  /-- a tuple of ints and texts that may be a dict's key -/
  | tk (ks : List Key)
  /-- a tuple of texts whose object is known to have no dict of its own -/
  | tf (ss : List Str)
  /-- a list of ints that is not the module's -/
  | li (ns : List Int)
  | dk (kvs : List (Key × D))
  | dt (kvs : List (List Key × D))

mutual
/-- the value v stands for the datum, by what I holds -/
def Rp (K : PySem.W.Frag) (I : Hp) : D → V → Prop
  | .non, v => v = .non
  | .bl b, v => v = .bl b
  | .int i, v => v = .int i
  | .str s, v => v = .str s
  | .lst ds, v => ∃ a xs, v = .ref a ∧ SqL K I a xs ∧ RpL K I ds xs
  | .tup ds, v => ∃ a xs, v = .ref a ∧ SqT K I a xs ∧ RpL K I ds xs
  | .tk ks, v => ∃ a, v = .ref a ∧ I a = some (.tup (ks.map kV))
  | .tf ss, v => ∃ a o, v = .ref a ∧ I a = some (.frz o (.tup (ss.map V.str))) ∧ o.dict = none
  | .li ns, v => ∃ a, v = .ref a ∧ Rd I a (.lst (ns.map V.int))
  | .dk kvs, v => ∃ a es, v = .ref a ∧ Rd I a (.dK es) ∧ RpK K I kvs es
  | .dt kvs, v => ∃ a es, v = .ref a ∧ Rd I a (.dT es) ∧ RpT K I kvs es
def RpL (K : PySem.W.Frag) (I : Hp) : List D → List V → Prop
  | [], xs => xs = []
  | d :: ds, xs => ∃ x r, xs = x :: r ∧ Rp K I d x ∧ RpL K I ds r
def RpK (K : PySem.W.Frag) (I : Hp) : List (Key × D) → List (Key × V) → Prop
  | [], es => es = []
  | (k, d) :: r, es => ∃ v s, es = (k, v) :: s ∧ Rp K I d v ∧ RpK K I r s
def RpT (K : PySem.W.Frag) (I : Hp) : List (List Key × D) → List (List Key × V) → Prop
  | [], es => es = []
  | (k, d) :: r, es => ∃ v s, es = (k, v) :: s ∧ Rp K I d v ∧ RpT K I r s
end

section
variable {K : PySem.W.Frag} {I J : Hp}
/-- what may be read stays readable -/
def Keeps (I J : Hp) : Prop := (∀ a xs, Rd I a (.lst xs) → Rd J a (.lst xs)) ∧ (∀ a xs, Rd I a (.tup xs) → Rd J a (.tup xs)) ∧ (∀ a xs, Rd I a (.dK xs) → Rd J a (.dK xs)) ∧ (∀ a xs, Rd I a (.dT xs) → Rd J a (.dT xs)) ∧ (∀ a xs, I a = some (.tup xs) → J a = some (.tup xs)) ∧ (∀ a o xs, I a = some (.frz o (.tup xs)) → J a = some (.frz o (.tup xs)))
theorem rd_same {a : Addr} {u : HO} (h : Same I J) (r : Rd I a u) : Rd J a u := by
  rcases r with r | ⟨o, r⟩
  · exact .inl (h _ _ r)
  · exact .inr ⟨o, h _ _ r⟩
theorem Keeps.of_same (h : Same I J) : Keeps I J := ⟨fun _ _ => rd_same h, fun _ _ => rd_same h, fun _ _ => rd_same h, fun _ _ => rd_same h, fun a xs e => h a _ e, fun a o xs e => h a _ e⟩
theorem sqL_keeps (h : Keeps I J) {a : Addr} {xs : List V} (r : SqL K I a xs) : SqL K J a xs := by
  rcases r with r | r
  · exact .inl (h.1 _ _ r)
  · exact .inr r
theorem sqT_keeps (h : Keeps I J) {a : Addr} {xs : List V} (r : SqT K I a xs) : SqT K J a xs := by
  rcases r with r | r
  · exact .inl (h.2.1 _ _ r)
  · exact .inr r
mutual
theorem Rp.keeps (h : Keeps I J) : ∀ {d : D} {v : V}, Rp K I d v → Rp K J d v
  | .non, _, r => r
  | .bl _, _, r => r
  | .int _, _, r => r
  | .str _, _, r => r
  | .lst ds, _, ⟨a, xs, e, s, r⟩ => ⟨a, xs, e, sqL_keeps h s, RpL.keeps h r⟩
  | .tup ds, _, ⟨a, xs, e, s, r⟩ => ⟨a, xs, e, sqT_keeps h s, RpL.keeps h r⟩
  | .tk ks, _, ⟨a, e, s⟩ => ⟨a, e, h.2.2.2.2.1 _ _ s⟩
  | .tf ss, _, ⟨a, o, e, s, r⟩ => ⟨a, o, e, h.2.2.2.2.2 _ _ _ s, r⟩
  | .li ns, _, ⟨a, e, s⟩ => ⟨a, e, h.1 _ _ s⟩
  | .dk ds, _, ⟨a, xs, e, s, r⟩ => ⟨a, xs, e, h.2.2.1 _ _ s, RpK.keeps h r⟩
  | .dt ds, _, ⟨a, xs, e, s, r⟩ => ⟨a, xs, e, h.2.2.2.1 _ _ s, RpT.keeps h r⟩
theorem RpL.keeps (h : Keeps I J) : ∀ {ds : List D} {vs : List V}, RpL K I ds vs → RpL K J ds vs
  | [], _, r => r
  | d :: ds, _, ⟨x, t, e, r, q⟩ => ⟨x, t, e, Rp.keeps h r, RpL.keeps h q⟩
theorem RpK.keeps (h : Keeps I J) : ∀ {ds : List (Key × D)} {vs : List (Key × V)}, RpK K I ds vs → RpK K J ds vs
  | [], _, r => r
  | (k, d) :: ds, _, ⟨x, t, e, r, q⟩ => ⟨x, t, e, Rp.keeps h r, RpK.keeps h q⟩
theorem RpT.keeps (h : Keeps I J) : ∀ {ds : List (List Key × D)} {vs : List (List Key × V)}, RpT K I ds vs → RpT K J ds vs
  | [], _, r => r
  | (k, d) :: ds, _, ⟨x, t, e, r, q⟩ => ⟨x, t, e, Rp.keeps h r, RpT.keeps h q⟩
end
theorem Rp.mono (h : Same I J) {d : D} {v : V} (r : Rp K I d v) : Rp K J d v := r.keeps (.of_same h)
theorem RpL.mono (h : Same I J) {d : List D} {v : List V} (r : RpL K I d v) : RpL K J d v := r.keeps (.of_same h)
theorem RpL.length : ∀ {ds : List D} {vs : List V}, RpL K I ds vs → vs.length = ds.length
  | [], _, r => by rw [show _ = [] from r]; rfl
  | d :: ds, _, ⟨x, t, e, r, q⟩ => by rw [e, List.length_cons, List.length_cons, RpL.length q]
theorem RpL.get : ∀ {ds : List D} {vs : List V} {i : Nat} {d : D}, RpL K I ds vs → ds[i]? = some d → ∃ v, vs[i]? = some v ∧ Rp K I d v
  | [], _, i, d, r, h => by simp at h
  | d :: ds, _, 0, _, ⟨x, t, e, r, q⟩, h => by
    subst e
    have h' : d = _ := Option.some.inj h
    subst h'
    exact ⟨x, rfl, r⟩
  | d :: ds, _, i + 1, _, ⟨x, t, e, r, q⟩, h => by
    subst e
    exact RpL.get (i := i) q h
theorem RpL.getV : ∀ {ds : List D} {vs : List V} {i : Nat} {v : V}, RpL K I ds vs → vs[i]? = some v → ∃ d, ds[i]? = some d ∧ Rp K I d v
  | [], _, i, d, r, h => by rw [show _ = [] from r] at h; simp at h
  | d :: ds, _, 0, _, ⟨x, t, e, r, q⟩, h => by
    subst e
    have h' : x = _ := Option.some.inj h
    subst h'
    exact ⟨d, rfl, r⟩
  | d :: ds, _, i + 1, _, ⟨x, t, e, r, q⟩, h => by
    subst e
    exact RpL.getV (i := i) q h
theorem RpL.append : ∀ {ds es : List D} {vs us : List V}, RpL K I ds vs → RpL K I es us → RpL K I (ds ++ es) (vs ++ us)
  | [], _, _, _, r, q => by rw [show _ = [] from r]; exact q
  | d :: ds, _, _, _, ⟨x, t, e, r, q⟩, s => ⟨x, _, by rw [e]; rfl, r, RpL.append q s⟩
theorem RpL.one {d : D} {v : V} (h : Rp K I d v) : RpL K I [d] [v] := ⟨v, [], rfl, h, rfl⟩
theorem RpL.snoc {ds : List D} {vs : List V} {d : D} {v : V} (r : RpL K I ds vs) (h : Rp K I d v) : RpL K I (ds ++ [d]) (vs ++ [v]) := r.append (.one h)
theorem RpL.take : ∀ {ds : List D} {vs : List V} (n : Nat), RpL K I ds vs → RpL K I (ds.take n) (vs.take n)
  | [], _, n, r => by rw [show _ = [] from r]; cases n <;> exact rfl
  | d :: ds, _, 0, r => rfl
  | d :: ds, _, n + 1, ⟨x, t, e, r, q⟩ => ⟨x, _, by rw [e]; rfl, r, RpL.take n q⟩
theorem RpL.drop : ∀ {ds : List D} {vs : List V} (n : Nat), RpL K I ds vs → RpL K I (ds.drop n) (vs.drop n)
  | [], _, n, r => by rw [show _ = [] from r]; cases n <;> exact rfl
  | d :: ds, _, 0, r => r
  | d :: ds, _, n + 1, ⟨x, t, e, r, q⟩ => by rw [e]; exact RpL.drop n q
theorem RpL.set {d : D} {v : V} (h : Rp K I d v) : ∀ {ds : List D} {vs : List V} (n : Nat), RpL K I ds vs → RpL K I (ds.set n d) (vs.set n v)
  | [], _, n, r => by rw [show _ = [] from r]; exact rfl
  | _ :: ds, _, 0, ⟨x, t, e, r, q⟩ => ⟨v, t, by rw [e]; rfl, h, q⟩
  | _ :: ds, _, n + 1, ⟨x, t, e, r, q⟩ => ⟨x, _, by rw [e]; rfl, r, RpL.set h n q⟩
theorem RpL.ints : ∀ {ns : List Int} {vs : List V}, RpL K I (ns.map D.int) vs → vs = ns.map V.int
  | [], _, r => r
  | n :: ns, _, ⟨x, t, e, r, q⟩ => by rw [e, show x = .int n from r, RpL.ints q]; rfl
theorem RpL.strs : ∀ {ns : List Str} {vs : List V}, RpL K I (ns.map D.str) vs → vs = ns.map V.str
  | [], _, r => r
  | n :: ns, _, ⟨x, t, e, r, q⟩ => by rw [e, show x = .str n from r, RpL.strs q]; rfl
theorem RpL.bls : ∀ {ns : List Bool} {vs : List V}, RpL K I (ns.map D.bl) vs → vs = ns.map V.bl
  | [], _, r => r
  | n :: ns, _, ⟨x, t, e, r, q⟩ => by rw [e, show x = .bl n from r, RpL.bls q]; rfl
theorem RpL.of_ints : ∀ (ns : List Int), RpL K I (ns.map D.int) (ns.map V.int)
  | [] => rfl
  | n :: ns => ⟨_, _, rfl, rfl, RpL.of_ints ns⟩
theorem RpL.of_strs : ∀ (ns : List Str), RpL K I (ns.map D.str) (ns.map V.str)
  | [] => rfl
  | n :: ns => ⟨_, _, rfl, rfl, RpL.of_strs ns⟩
/-- a key as a datum -/
def kD : Key → D
  | .inl i => .int i
  | .inr s => .str s
theorem kD_rp (k : Key) : Rp K I (kD k) (kV k) := by cases k <;> exact rfl
theorem kDs_rp : ∀ ks : List Key, RpL K I (ks.map kD) (ks.map kV)
  | [] => rfl
  | k :: ks => ⟨_, _, rfl, kD_rp k, kDs_rp ks⟩
/-- such a tuple is a tuple -/
theorem tk_tup {ks : List Key} {v : V} (h : Rp K I (.tk ks) v) : Rp K I (.tup (ks.map kD)) v := by
  obtain ⟨a, e, s⟩ := h
  exact ⟨a, _, e, .inl (.inl s), kDs_rp ks⟩
theorem tf_tup {ss : List Str} {v : V} (h : Rp K I (.tf ss) v) : Rp K I (.tup (ss.map D.str)) v := by
  obtain ⟨a, o, e, s, _⟩ := h
  exact ⟨a, _, e, .inl (.inr ⟨o, s⟩), RpL.of_strs ss⟩
theorem li_lst {ns : List Int} {v : V} (h : Rp K I (.li ns) v) : Rp K I (.lst (ns.map D.int)) v := by
  obtain ⟨a, e, s⟩ := h
  exact ⟨a, _, e, .inl s, RpL.of_ints ns⟩
end
end RF

set_option Elab.async false
set_option linter.all false
set_option maxRecDepth 100000
set_option maxHeartbeats 4000000
set_option autoImplicit false
namespace RF
open PySem L2

/-! ### worlds -/
/-- I: what nobody changes; H: the whole heap; tp: the tape that the draws change; lk: whether some dict may be locked -/
structure Wd where
  I : Hp
  H : Hp
  tp : Option Addr
  lk : Bool
def TapeAt (w : Wd) (a : Addr) : Prop := w.I a = none ∧ ∃ (b : Addr) (p c : Int) (ns : List Int), w.H a = some (.lst [.ref b, .int p, .int c]) ∧ Rd w.I b (.lst (ns.map V.int)) ∧ 0 ≤ p ∧ ns.length ≤ 1000
def NoLock (H : Hp) : Prop := ∀ a o, (∀ es, H a ≠ some (.frz o (.dK es))) ∧ ∀ es, H a ≠ some (.frz o (.dT es))
structure Wd.Ok (w : Wd) : Prop where
  sub : Same w.I w.H
  tape : ∀ a, w.tp = some a → TapeAt w a
  nolk : w.lk = false → NoLock w.H
structure Wd.le (w w' : Wd) : Prop where
  tp : w'.tp = w.tp
  lk : w'.lk = w.lk
  I : Same w.I w'.I
  H : ∀ a o, w.H a = some o → w.tp ≠ some a → w'.H a = some o
  fr : ∀ a, w.I a = none → w.H a ≠ none → w'.I a = none
  dom : ∀ a, w'.H a = none → w.H a = none
theorem Wd.le.refl (w : Wd) : w.le w := ⟨rfl, rfl, fun _ _ h => h, fun _ _ h _ => h, fun _ h _ => h, fun _ h => h⟩
theorem Wd.le.trans {a b c : Wd} (h : a.le b) (k : b.le c) : a.le c where
  tp := k.tp.trans h.tp
  lk := k.lk.trans h.lk
  I := h.I.trans k.I
  H := fun x o e n => k.H x o (h.H x o e n) (by rw [h.tp]; exact n)
  fr := fun x e n => k.fr x (h.fr x e n) fun z => n (h.dom x z)
  dom := fun x e => h.dom x (k.dom x e)
/-- a new thing that nobody will change -/
def Wd.new (w : Wd) (p : Addr) (o : HO) : Wd := { w with I := upd w.I p o, H := upd w.H p o }
/-- a thing that is the frame's own is changed or made -/
def Wd.put (w : Wd) (p : Addr) (o : HO) : Wd := { w with H := upd w.H p o }
/-- the frame's own thing is given up: nobody will change it -/
def Wd.fix (w : Wd) (p : Addr) (o : HO) : Wd := { w with I := upd w.I p o }
theorem notI {w : Wd} (ok : w.Ok) {p : Addr} (h : w.H p = none) : w.I p = none := ok.sub.free h
theorem not_tape {w : Wd} (ok : w.Ok) {p : Addr} (h : w.H p = none) : w.tp ≠ some p := fun e => by
  obtain ⟨_, b, x, c, ns, z, _⟩ := ok.tape p e
  rw [h] at z
  cases z
def plainO : HO → Prop
  | .frz _ (.dK _) => False
  | .frz _ (.dT _) => False
  | _ => True
theorem NoLock.upd {H : Hp} (n : NoLock H) {p : Addr} {o : HO} (h : plainO o) : NoLock (upd H p o) := fun a u => by
  by_cases e : a = p
  · subst e
    rw [upd_same]
    exact ⟨fun es z => by cases z; exact h, fun es z => by cases z; exact h⟩
  · rw [upd_ne e]
    exact n a u
theorem same_new {H : Hp} {p : Addr} {o : HO} (h : H p = none) : Same H (upd H p o) := fun a u e => by rw [upd_ne (ne_of_none e h)]; exact e
theorem TapeAt.mono {w w' : Wd} {a : Addr} (t : TapeAt w a) (h1 : Same w.I w'.I) (h2 : w'.I a = none) (h3 : w'.H a = w.H a) : TapeAt w' a := by
  obtain ⟨_, b, p, c, ns, e1, e2, e3, e4⟩ := t
  exact ⟨h2, b, p, c, ns, h3.trans e1, rd_same h1 e2, e3, e4⟩
theorem Wd.new_ok {w : Wd} (ok : w.Ok) {p : Addr} {o : HO} (h : w.H p = none) (ho : plainO o) : (w.new p o).Ok where
  sub := fun a u e => by
    show upd w.H p o a = some u
    have e : upd w.I p o a = some u := e
    by_cases z : a = p
    · subst z; rw [upd_same] at e ⊢; exact e
    · rw [upd_ne z] at e ⊢; exact ok.sub _ _ e
  tape := fun a e => by
    have ne : a ≠ p := fun z => not_tape ok h (by rw [← z]; exact e)
    exact (ok.tape a e).mono (same_new (notI ok h)) (by show upd w.I p o a = none; rw [upd_ne ne]; exact (ok.tape a e).1) (by show upd w.H p o a = _; rw [upd_ne ne])
  nolk := fun e => (ok.nolk e).upd ho
theorem Wd.new_le {w : Wd} (ok : w.Ok) {p : Addr} {o : HO} (h : w.H p = none) : w.le (w.new p o) where
  tp := rfl
  lk := rfl
  I := same_new (notI ok h)
  H := fun a u e _ => same_new h a u e
  fr := fun a e n => by
    show upd w.I p o a = none
    rw [upd_ne fun z => n (by rw [z]; exact h)]
    exact e
  dom := fun a e => by
    have e : upd w.H p o a = none := e
    by_cases z : a = p
    · subst z; exact h
    · rw [upd_ne z] at e; exact e
theorem Wd.put_ok {w : Wd} (ok : w.Ok) {p : Addr} {o : HO} (h : w.I p = none) (ht : w.tp ≠ some p) (ho : plainO o) : (w.put p o).Ok where
  sub := fun a u e => by
    show upd w.H p o a = some u
    rw [upd_ne (ne_of_none e h)]
    exact ok.sub _ _ e
  tape := fun a e => (ok.tape a e).mono (fun _ _ z => z) (ok.tape a e).1 (by show upd w.H p o a = _; rw [upd_ne fun z => ht (by rw [← z]; exact e)])
  nolk := fun e => (ok.nolk e).upd ho
/-- seen from where the thing was not -/
theorem Wd.le_put {w0 w : Wd} (l : w0.le w) {p : Addr} {o : HO} (h : w0.H p = none) : w0.le (w.put p o) where
  tp := l.tp
  lk := l.lk
  I := l.I
  H := fun a u e n => by
    show upd w.H p o a = some u
    rw [upd_ne (ne_of_none e h)]
    exact l.H a u e n
  fr := l.fr
  dom := fun a e => by
    have e : upd w.H p o a = none := e
    by_cases z : a = p
    · subst z; exact h
    · rw [upd_ne z] at e; exact l.dom a e
theorem Wd.le_fix {w0 w : Wd} (l : w0.le w) {p : Addr} {o : HO} (h : w0.H p = none) (hi : w.I p = none) : w0.le (w.fix p o) where
  tp := l.tp
  lk := l.lk
  I := l.I.trans (same_new hi)
  H := l.H
  fr := fun a e n => by
    show upd w.I p o a = none
    rw [upd_ne fun z => n (by rw [z]; exact h)]
    exact l.fr a e n
  dom := l.dom
theorem Wd.fix_ok {w : Wd} (ok : w.Ok) {p : Addr} {o : HO} (hi : w.I p = none) (hH : w.H p = some o) (ht : w.tp ≠ some p) : (w.fix p o).Ok where
  sub := fun a u e => by
    have e : upd w.I p o a = some u := e
    by_cases z : a = p
    · subst z; rw [upd_same] at e; rw [← e]; exact hH
    · rw [upd_ne z] at e; exact ok.sub _ _ e
  tape := fun a e => (ok.tape a e).mono (same_new hi) (by show upd w.I p o a = none; rw [upd_ne fun z => ht (by rw [← z]; exact e)]; exact (ok.tape a e).1) rfl
  nolk := ok.nolk
/-- a base that knows all of w that stays -/
def Wd.up (w0 w : Wd) : Wd := { I := w.I, H := fun a => match w.I a with | some o => some o | none => w0.H a, tp := w0.tp, lk := w0.lk }
theorem Wd.up_some {w0 w : Wd} {a : Addr} {o : HO} (h : w.I a = some o) : (w0.up w).H a = some o := by
  show (match w.I a with | some o => some o | none => w0.H a) = some o
  rw [h]
theorem Wd.up_none {w0 w : Wd} {a : Addr} (h : w.I a = none) : (w0.up w).H a = w0.H a := by
  show (match w.I a with | some o => some o | none => w0.H a) = w0.H a
  rw [h]
theorem Wd.up_le {w0 w : Wd} (l : w0.le w) (ok : w.Ok) : (w0.up w).le w where
  tp := l.tp
  lk := l.lk
  I := fun _ _ e => e
  H := fun a o e n => by
    cases z : w.I a with
    | some u => rw [Wd.up_some z] at e; cases e; exact ok.sub _ _ z
    | none => rw [Wd.up_none z] at e; exact l.H a o e n
  fr := fun a e _ => e
  dom := fun a e => by
    rw [Wd.up_none (ok.sub.free e)]
    exact l.dom a e
theorem Wd.le_up {w0 w : Wd} (l : w0.le w) (ok : w.Ok) : w0.le (w0.up w) where
  tp := rfl
  lk := rfl
  I := l.I
  H := fun a o e n => by
    cases z : w.I a with
    | some u =>
      rw [Wd.up_some z]
      have q := ok.sub _ _ z
      rw [l.H a o e n] at q
      exact q.symm
    | none => rw [Wd.up_none z]; exact e
  fr := l.fr
  dom := fun a e => by
    cases z : w.I a with
    | some u => rw [Wd.up_some z] at e; cases e
    | none => rw [Wd.up_none z] at e; exact e

/-! ### slots -/
/-- what is known of a slot: nothing; a datum; a list of the frame's own; a dict of the frame's own; the tape -/
inductive Sl where
  | un
  | dat (d : D)
  | lst (xs : List D)
  | dk (kvs : List (Key × D))
  | dt (kvs : List (List Key × D))
  | tape
/-- the frame's own thing at a -/
def OwnAt (K : PySem.W.Frag) (w0 w : Wd) (s : Sl) (a : Addr) : Prop := w0.H a = none ∧ w.I a = none ∧ w.tp ≠ some a ∧
  match s with
  | .lst xs => ∃ vs, w.H a = some (.lst vs) ∧ RpL K w.I xs vs
  | .dk kvs => ∃ es, w.H a = some (.dK es) ∧ RpK K w.I kvs es
  | .dt kvs => ∃ es, w.H a = some (.dT es) ∧ RpT K w.I kvs es
  | _ => False
def SlOk (K : PySem.W.Frag) (w0 w : Wd) (s : Sl) (x : Option (Option V)) : Prop := match s with
  | .un => True
  | .dat d => ∃ v, x = some (some v) ∧ Rp K w.I d v
  | .tape => ∃ a, x = some (some (.ref a)) ∧ w.tp = some a
  | s => ∃ a, x = some (some (.ref a)) ∧ OwnAt K w0 w s a
def isOwn : Sl → Bool
  | .lst _ => true
  | .dk _ => true
  | .dt _ => true
  | _ => false
structure Sr (K : PySem.W.Frag) (lk : Bool) (w0 w : Wd) (σ : St) (ρ : List Sl) : Prop where
  lk : w.lk = lk
  le : w0.le w
  ok : w.Ok
  len : σ.length = ρ.length
  sl : ∀ (i : Nat) (s : Sl), ρ[i]? = some s → SlOk K w0 w s σ[i]?
  ap : ∀ (i j : Nat) (s t : Sl) (a : Addr), ρ[i]? = some s → ρ[j]? = some t → isOwn s = true → isOwn t = true → σ[i]? = some (some (.ref a)) → σ[j]? = some (some (.ref a)) → i = j
section
variable {K : PySem.W.Frag} {lk : Bool} {w0 w w' : Wd} {σ : St} {ρ : List Sl}
theorem OwnAt.own {s : Sl} {a : Addr} (h : OwnAt K w0 w s a) : isOwn s = true := by
  obtain ⟨_, _, _, h⟩ := h
  cases s <;> first | rfl | exact h.elim
theorem OwnAt.there {s : Sl} {a : Addr} (h : OwnAt K w0 w s a) : w.H a ≠ none := by
  obtain ⟨_, _, _, h⟩ := h
  cases s <;> first | exact h.elim | (obtain ⟨vs, e, _⟩ := h; rw [e]; exact fun z => nomatch z)
theorem SlOk.own {s : Sl} {x : Option (Option V)} (ho : isOwn s = true) : SlOk K w0 w s x ↔ ∃ a, x = some (some (.ref a)) ∧ OwnAt K w0 w s a := by
  cases s <;> first | exact Iff.rfl | cases ho
theorem OwnAt.mono {w1 : Wd} {s : Sl} {a : Addr} (h : OwnAt K w0 w s a) (h0 : w1.H a = none) (hI : Same w.I w'.I) (ht : w'.tp = w.tp) (hi : w'.I a = none) (hH : ∀ o, w.H a = some o → w'.H a = some o) : OwnAt K w1 w' s a := by
  obtain ⟨_, _, n, h⟩ := h
  refine ⟨h0, hi, by rw [ht]; exact n, ?_⟩
  cases s with
  | lst xs => obtain ⟨vs, e, r⟩ := h; exact ⟨vs, hH _ e, r.mono hI⟩
  | dk xs => obtain ⟨vs, e, r⟩ := h; exact ⟨vs, hH _ e, r.keeps (.of_same hI)⟩
  | dt xs => obtain ⟨vs, e, r⟩ := h; exact ⟨vs, hH _ e, r.keeps (.of_same hI)⟩
  | un => exact h
  | dat d => exact h
  | tape => exact h
theorem Sr.mono (h : Sr K lk w0 w σ ρ) (l : w.le w') (ok : w'.Ok) : Sr K lk w0 w' σ ρ where
  lk := l.lk.trans h.lk
  le := h.le.trans l
  ok := ok
  len := h.len
  sl := fun i s e => by
    have q := h.sl i s e
    cases s with
    | un => exact True.intro
    | dat d => obtain ⟨v, e, r⟩ := q; exact ⟨v, e, r.mono l.I⟩
    | tape => obtain ⟨a, e, r⟩ := q; exact ⟨a, e, l.tp.trans r⟩
    | lst xs => obtain ⟨a, e, r⟩ := q; exact ⟨a, e, r.mono r.1 l.I l.tp (l.fr a r.2.1 r.there) fun o z => l.H a o z r.2.2.1⟩
    | dk xs => obtain ⟨a, e, r⟩ := q; exact ⟨a, e, r.mono r.1 l.I l.tp (l.fr a r.2.1 r.there) fun o z => l.H a o z r.2.2.1⟩
    | dt xs => obtain ⟨a, e, r⟩ := q; exact ⟨a, e, r.mono r.1 l.I l.tp (l.fr a r.2.1 r.there) fun o z => l.H a o z r.2.2.1⟩
  ap := h.ap
/-- another base, in which what is the frame's own is not -/
theorem Sr.base {w1 : Wd} (h : Sr K lk w0 w σ ρ) (l : w1.le w) (hd : ∀ a, w.I a = none → w0.H a = none → w1.H a = none) : Sr K lk w1 w σ ρ where
  lk := h.lk
  le := l
  ok := h.ok
  len := h.len
  sl := fun i s e => by
    have q := h.sl i s e
    cases s with
    | un => exact True.intro
    | dat d => exact q
    | tape => exact q
    | lst xs => obtain ⟨a, e, r⟩ := q; exact ⟨a, e, hd a r.2.1 r.1, r.2⟩
    | dk xs => obtain ⟨a, e, r⟩ := q; exact ⟨a, e, hd a r.2.1 r.1, r.2⟩
    | dt xs => obtain ⟨a, e, r⟩ := q; exact ⟨a, e, hd a r.2.1 r.1, r.2⟩
  ap := h.ap
theorem Sr.rebase (h : Sr K lk w0 w σ ρ) : Sr K lk (w0.up w) w σ ρ := h.base (Wd.up_le h.le h.ok) fun a hi h0 => by rw [Wd.up_none hi]; exact h0
theorem Sr.back {w1 : Wd} (l : w0.le w1) (h : Sr K lk w1 w σ ρ) : Sr K lk w0 w σ ρ := h.base (l.trans h.le) fun a _ h0 => l.dom a h0
/-- a slot gets a datum -/
theorem Sr.set (h : Sr K lk w0 w σ ρ) (i : Nat) {d : D} {v : V} (r : Rp K w.I d v) : Sr K lk w0 w (σ.set i (some v)) (ρ.set i (.dat d)) where
  lk := h.lk
  le := h.le
  ok := h.ok
  len := by rw [List.length_set, List.length_set]; exact h.len
  sl := fun j s e => by
    by_cases z : i = j
    · subst z
      have hl : i < ρ.length := by
        have := (List.getElem?_eq_some_iff.mp e).1
        rw [List.length_set] at this
        exact this
      rw [List.getElem?_set_self hl] at e
      cases e
      exact ⟨v, by rw [List.getElem?_set_self (by rw [h.len]; exact hl)], r⟩
    · rw [List.getElem?_set_ne z] at e ⊢
      exact h.sl j s e
  ap := fun j k s t a e1 e2 o1 o2 f1 f2 => by
    have nj : i ≠ j := fun z => by
      subst z
      have hl : i < ρ.length := by
        have := (List.getElem?_eq_some_iff.mp e1).1
        rw [List.length_set] at this
        exact this
      rw [List.getElem?_set_self hl] at e1
      cases e1
      cases o1
    have nk : i ≠ k := fun z => by
      subst z
      have hl : i < ρ.length := by
        have := (List.getElem?_eq_some_iff.mp e2).1
        rw [List.length_set] at this
        exact this
      rw [List.getElem?_set_self hl] at e2
      cases e2
      cases o2
    rw [List.getElem?_set_ne nj] at e1 f1
    rw [List.getElem?_set_ne nk] at e2 f2
    exact h.ap j k s t a e1 e2 o1 o2 f1 f2
/-- less is known of a slot -/
theorem Sr.unset (h : Sr K lk w0 w σ ρ) (i : Nat) {x : Option V} : Sr K lk w0 w (σ.set i x) (ρ.set i .un) where
  lk := h.lk
  le := h.le
  ok := h.ok
  len := by rw [List.length_set, List.length_set]; exact h.len
  sl := fun j s e => by
    by_cases z : i = j
    · subst z
      have hl : i < ρ.length := by
        have := (List.getElem?_eq_some_iff.mp e).1
        rw [List.length_set] at this
        exact this
      rw [List.getElem?_set_self hl] at e
      cases e
      exact True.intro
    · rw [List.getElem?_set_ne z] at e ⊢
      exact h.sl j s e
  ap := fun j k s t a e1 e2 o1 o2 f1 f2 => by
    have nj : i ≠ j := fun z => by
      subst z
      have hl : i < ρ.length := by
        have := (List.getElem?_eq_some_iff.mp e1).1
        rw [List.length_set] at this
        exact this
      rw [List.getElem?_set_self hl] at e1
      cases e1
      cases o1
    have nk : i ≠ k := fun z => by
      subst z
      have hl : i < ρ.length := by
        have := (List.getElem?_eq_some_iff.mp e2).1
        rw [List.length_set] at this
        exact this
      rw [List.getElem?_set_self hl] at e2
      cases e2
      cases o2
    rw [List.getElem?_set_ne nj] at e1 f1
    rw [List.getElem?_set_ne nk] at e2 f2
    exact h.ap j k s t a e1 e2 o1 o2 f1 f2
/-- slots forgotten -/
def wipeS (ρ : List Sl) : List Nat → List Sl
  | [] => ρ
  | v :: vs => (wipeS ρ vs).set v .un
theorem Sr.wipe (h : Sr K lk w0 w σ ρ) : ∀ vs : List Nat, Sr K lk w0 w (L2.wipe σ vs) (wipeS ρ vs)
  | [] => h
  | v :: vs => (Sr.wipe h vs).unset v
/-- what is the frame's own is changed: the slot i -/
theorem Sr.own (h : Sr K lk w0 w σ ρ) {i : Nat} {s t : Sl} {a : Addr} (hs : ρ[i]? = some s) (ho : isOwn s = true) (ha : σ[i]? = some (some (.ref a))) (o : HO) (hp : plainO o) (hn : OwnAt K w0 (w.put a o) t a) : Sr K lk w0 (w.put a o) σ (ρ.set i t) := by
  have q := h.sl i s hs
  obtain ⟨a', e', ow⟩ := (SlOk.own ho).mp q
  obtain rfl : a = a' := by rw [ha] at e'; cases e'; rfl
  refine ⟨h.lk, Wd.le_put h.le ow.1, Wd.put_ok h.ok ow.2.1 ow.2.2.1 hp, by rw [List.length_set]; exact h.len, fun j s' e => ?_, fun j k s' t' b e1 e2 o1 o2 f1 f2 => ?_⟩
  · by_cases z : i = j
    · subst z
      rw [List.getElem?_set_self (List.getElem?_eq_some_iff.mp hs).1] at e
      cases e
      exact (SlOk.own hn.own).mpr ⟨a, ha, hn⟩
    · rw [List.getElem?_set_ne z] at e
      have q' := h.sl j s' e
      by_cases oj : isOwn s' = true
      · obtain ⟨b, eb, ob⟩ := (SlOk.own oj).mp q'
        refine (SlOk.own oj).mpr ⟨b, eb, ob.mono ob.1 (fun _ _ z => z) rfl ob.2.1 fun u hu => ?_⟩
        have nb : b ≠ a := fun y => by
          subst y
          exact z (h.ap i j s s' b hs e ho oj ha eb)
        show upd w.H a o b = some u
        rw [upd_ne nb]
        exact hu
      · cases s' with
        | un => exact True.intro
        | dat d => exact q'
        | tape => exact q'
        | lst xs => exact absurd rfl oj
        | dk xs => exact absurd rfl oj
        | dt xs => exact absurd rfl oj
  · have own' : ∀ {m : Nat} {r : Sl}, (ρ.set i t)[m]? = some r → isOwn r = true → ∃ r', ρ[m]? = some r' ∧ isOwn r' = true := fun {m r} e orr => by
      by_cases z : i = m
      · subst z; exact ⟨s, hs, ho⟩
      · rw [List.getElem?_set_ne z] at e; exact ⟨r, e, orr⟩
    obtain ⟨r1, g1, p1⟩ := own' e1 o1
    obtain ⟨r2, g2, p2⟩ := own' e2 o2
    exact h.ap j k r1 r2 b g1 g2 p1 p2 f1 f2
/-- a new thing of the frame's own -/
theorem Sr.grow (h : Sr K lk w0 w σ ρ) (i : Nat) {t : Sl} {a : Addr} {o : HO} (hp : plainO o) (ha : w.H a = none) (hn : OwnAt K w0 (w.put a o) t a) : Sr K lk w0 (w.put a o) (σ.set i (some (.ref a))) (ρ.set i t) := by
  have h0 : w0.H a = none := h.le.dom a ha
  refine ⟨h.lk, Wd.le_put h.le h0, Wd.put_ok h.ok (notI h.ok ha) (not_tape h.ok ha) hp, by rw [List.length_set, List.length_set]; exact h.len, fun j s' e => ?_, fun j k s' t' b e1 e2 o1 o2 f1 f2 => ?_⟩
  · by_cases z : i = j
    · subst z
      have hl : i < ρ.length := by
        have := (List.getElem?_eq_some_iff.mp e).1
        rw [List.length_set] at this
        exact this
      rw [List.getElem?_set_self hl] at e
      cases e
      exact (SlOk.own hn.own).mpr ⟨a, by rw [List.getElem?_set_self (by rw [h.len]; exact hl)], hn⟩
    · rw [List.getElem?_set_ne z] at e ⊢
      have q' := h.sl j s' e
      by_cases oj : isOwn s' = true
      · obtain ⟨b, eb, ob⟩ := (SlOk.own oj).mp q'
        refine (SlOk.own oj).mpr ⟨b, eb, ob.mono ob.1 (fun _ _ z => z) rfl ob.2.1 fun u hu => ?_⟩
        have nb : b ≠ a := ne_of_none hu ha
        show upd w.H a o b = some u
        rw [upd_ne nb]
        exact hu
      · cases s' with
        | un => exact True.intro
        | dat d => exact q'
        | tape => exact q'
        | lst xs => exact absurd rfl oj
        | dk xs => exact absurd rfl oj
        | dt xs => exact absurd rfl oj
  · have other : ∀ {m : Nat} {r : Sl}, i ≠ m → (ρ.set i t)[m]? = some r → isOwn r = true → (σ.set i (some (.ref a)))[m]? = some (some (.ref b)) → b ≠ a ∧ ρ[m]? = some r ∧ σ[m]? = some (some (.ref b)) := fun {m r} z e orr f => by
      rw [List.getElem?_set_ne z] at e f
      obtain ⟨c, ec, oc⟩ := (SlOk.own orr).mp (h.sl m r e)
      obtain rfl : b = c := by rw [f] at ec; cases ec; rfl
      exact ⟨fun y => oc.there (by rw [y]; exact ha), e, f⟩
    have self : ∀ {m : Nat} {r : Sl}, i = m → (ρ.set i t)[m]? = some r → (σ.set i (some (.ref a)))[m]? = some (some (.ref b)) → b = a := fun {m r} z e f => by
      subst z
      have hl : i < ρ.length := by
        have := (List.getElem?_eq_some_iff.mp e).1
        rw [List.length_set] at this
        exact this
      rw [List.getElem?_set_self (by rw [h.len]; exact hl)] at f
      cases f
      rfl
    by_cases zj : i = j
    · by_cases zk : i = k
      · exact zj.symm.trans zk
      · exact absurd (self zj e1 f1) (other zk e2 o2 f2).1
    · by_cases zk : i = k
      · exact absurd (self zk e2 f2) (other zj e1 o1 f1).1
      · obtain ⟨_, g1, k1⟩ := other zj e1 o1 f1
        obtain ⟨_, g2, k2⟩ := other zk e2 o2 f2
        exact h.ap j k s' t' b g1 g2 o1 o2 k1 k2
end
end RF

set_option Elab.async false
set_option linter.all false
set_option maxRecDepth 100000
set_option maxHeartbeats 4000000
set_option autoImplicit false
namespace RF
open PySem L2

/-! ### what evaluates to what, by the slots alone -/
def Gets (K : PySem.W.Frag) (w : Wd) (P : D → Prop) (Q : VK) : Prop := ∀ (v : V) (w' : Wd) (d : D), w.le w' → w'.Ok → Rp K w'.I d v → P d → Q v w'.H
def EvS (K : PySem.W.Frag) (lk : Bool) (te : TE) (ρ : List Sl) (P : D → Prop) : Prop := ∀ (w0 w : Wd) (σ : St), Sr K lk w0 w σ ρ → ∀ Q : VK, Gets K w P Q → te σ w.H Q
def EvT (K : PySem.W.Frag) (lk : Bool) (tt : TT) (ρ : List Sl) (P : Bool → Prop) : Prop := ∀ (w0 w : Wd) (σ : St), Sr K lk w0 w σ ρ → ∀ Q : Bool → Hp → Prop, (∀ (b : Bool) (w' : Wd), w.le w' → w'.Ok → P b → Q b w'.H) → tt σ w.H Q
/-- an argument: a datum, or the tape -/
inductive Ar where
  | d (x : D)
  | tp
def ArOk (K : PySem.W.Frag) (w : Wd) : Ar → V → Prop
  | .d x, v => Rp K w.I x v
  | .tp, v => ∃ a, v = .ref a ∧ w.tp = some a
def ArsOk (K : PySem.W.Frag) (w : Wd) : List Ar → List V → Prop
  | [], vs => vs = []
  | a :: as, vs => ∃ v r, vs = v :: r ∧ ArOk K w a v ∧ ArsOk K w as r
def EvA (K : PySem.W.Frag) (lk : Bool) (ta : TA) (ρ : List Sl) (P : List Ar → Prop) : Prop := ∀ (w0 w : Wd) (σ : St), Sr K lk w0 w σ ρ → ∀ Q : List V → Hp → Prop, (∀ (vs : List V) (w' : Wd) (as : List Ar), w.le w' → w'.Ok → ArsOk K w' as vs → P as → Q vs w'.H) → ta σ w.H Q
abbrev EvD (K : PySem.W.Frag) (lk : Bool) (te : TE) (ρ : List Sl) (d : D) : Prop := EvS K lk te ρ (fun x => x = d)
abbrev EvB (K : PySem.W.Frag) (lk : Bool) (tt : TT) (ρ : List Sl) (b : Bool) : Prop := EvT K lk tt ρ (fun x => x = b)
/-- a two-place operation on data; a call on arguments -/
def RvS (K : PySem.W.Frag) (lk : Bool) (r : R2) (x y : D) (P : D → Prop) : Prop := ∀ (w : Wd) (v u : V), w.Ok → w.lk = lk → Rp K w.I x v → Rp K w.I y u → ∀ Q : VK, Gets K w P Q → r v u w.H Q
def RcS (K : PySem.W.Frag) (lk : Bool) (r : List V → Hp → VK → Prop) (as : List Ar) (P : D → Prop) : Prop := ∀ (w : Wd) (vs : List V), w.Ok → w.lk = lk → ArsOk K w as vs → ∀ Q : VK, Gets K w P Q → r vs w.H Q

section
variable {K : PySem.W.Frag} {lk : Bool} {ρ : List Sl} {ta tb te : TE} {tt tu : TT} {A B P : D → Prop} {x y z d : D} {r : R2}
theorem Gets.here {w : Wd} {Q : VK} {v : V} (g : Gets K w P Q) (ok : w.Ok) (r : Rp K w.I d v) (p : P d) : Q v w.H := g v w d (.refl w) ok r p
theorem Gets.new {w : Wd} {Q : VK} {p : Addr} {o : HO} (g : Gets K w P Q) (ok : w.Ok) (h : w.H p = none) (ho : plainO o) (r : Rp K (upd w.I p o) d (.ref p)) (q : P d) : Q (.ref p) (upd w.H p o) :=
  g (.ref p) (w.new p o) d (Wd.new_le ok h) (Wd.new_ok ok h ho) r q
theorem Gets.up {w w' : Wd} {Q : VK} (g : Gets K w P Q) (l : w.le w') : Gets K w' P Q := fun v w2 d l2 ok r p => g v w2 d (l.trans l2) ok r p
theorem Gets.imp {w : Wd} {Q : VK} (g : Gets K w P Q) (h : ∀ d, A d → P d) : Gets K w A Q := fun v w2 d l2 ok r p => g v w2 d l2 ok r (h d p)
theorem EvS.imp (h : EvS K lk te ρ A) (i : ∀ d, A d → P d) : EvS K lk te ρ P := fun w0 w σ s Q g => h w0 w σ s Q (g.imp i)
theorem EvT.imp {A P : Bool → Prop} (h : EvT K lk tt ρ A) (i : ∀ d, A d → P d) : EvT K lk tt ρ P := fun w0 w σ s Q g => h w0 w σ s Q fun b w' l ok a => g b w' l ok (i b a)
theorem EvS.det (h : EvS K lk te ρ A) (i : ∀ d, A d → d = x) : EvD K lk te ρ x := h.imp i
theorem ev_is (h : EvD K lk te ρ x) (e : x = y) : EvD K lk te ρ y := e ▸ h
theorem eb_is {a b : Bool} (h : EvB K lk tt ρ a) (e : a = b) : EvB K lk tt ρ b := e ▸ h
/-- a word about the value itself, whatever it is -/
theorem EvS.of_all (h : ∀ d, A d → EvS K lk te ρ P) (hA : ∃ d, A d) : EvS K lk te ρ P := h _ hA.choose_spec

theorem ev_v {i : Nat} (h : ρ[i]? = some (.dat d)) : EvD K lk (tVar i) ρ d := fun w0 w σ s Q g => by
  obtain ⟨v, e, r⟩ := s.sl i _ h
  exact ⟨v, e, g.here s.ok r rfl⟩
theorem ev_c {v : V} (h : ∀ I, Rp K I d v) : EvD K lk (tC v) ρ d := fun w0 w σ s Q g => g.here s.ok (h _) rfl
theorem ev_int {i : Int} : EvD K lk (tC (.int i)) ρ (.int i) := ev_c fun _ => rfl
theorem ev_str {i : Str} : EvD K lk (tC (.str i)) ρ (.str i) := ev_c fun _ => rfl
theorem ev_bl {i : Bool} : EvD K lk (tC (.bl i)) ρ (.bl i) := ev_c fun _ => rfl
theorem ev_non : EvD K lk (tC .non) ρ .non := ev_c fun _ => rfl
theorem ev_op (ha : EvS K lk ta ρ A) (hb : EvS K lk tb ρ B) (hr : ∀ x y, A x → B y → RvS K lk r x y P) : EvS K lk (tOp r ta tb) ρ P := fun w0 w σ s Q g =>
  ha w0 w σ s _ fun v w1 x l1 ok1 r1 a => hb w0 w1 σ (s.mono l1 ok1) _ fun u w2 y l2 ok2 r2 b =>
    hr x y a b w2 v u ok2 ((s.mono l1 ok1).mono l2 ok2).lk (r1.mono l2.I) r2 Q (g.up (l1.trans l2))
theorem ev_op2 (ha : EvD K lk ta ρ x) (hb : EvD K lk tb ρ y) (hr : RvS K lk r x y P) : EvS K lk (tOp r ta tb) ρ P := ev_op ha hb fun _ _ a b => by
  rw [a, b]
  exact hr
theorem rv_I0 {g : Int → Int → V} {i j : Int} (h : ∀ I, Rp K I d (g i j)) : RvS K lk (rI0 g) (.int i) (.int j) (fun x => x = d) := fun w v u ok _ r1 r2 Q q => ⟨i, j, r1, r2, q.here ok (h _) rfl⟩
theorem rv_I {C : Int → Int → Prop} {g : Int → Int → V} {i j : Int} (hc : C i j) (h : ∀ I, Rp K I d (g i j)) : RvS K lk (rI C g) (.int i) (.int j) (fun x => x = d) := fun w v u ok _ r1 r2 Q q => ⟨i, j, r1, r2, hc, q.here ok (h _) rfl⟩
section
variable {i j : Int}
theorem ev_add (ha : EvD K lk ta ρ (.int i)) (hb : EvD K lk tb ρ (.int j)) : EvD K lk (tOp (rI0 fun i j => .int (i + j)) ta tb) ρ (.int (i + j)) := ev_op2 ha hb (rv_I0 fun _ => rfl)
theorem ev_sub (ha : EvD K lk ta ρ (.int i)) (hb : EvD K lk tb ρ (.int j)) : EvD K lk (tOp (rI0 fun i j => .int (i - j)) ta tb) ρ (.int (i - j)) := ev_op2 ha hb (rv_I0 fun _ => rfl)
theorem ev_mul (ha : EvD K lk ta ρ (.int i)) (hb : EvD K lk tb ρ (.int j)) (h : CMul i j) : EvD K lk (tOp (rI CMul fun i j => .int (i * j)) ta tb) ρ (.int (i * j)) := ev_op2 ha hb (rv_I h fun _ => rfl)
theorem ev_mulW (ha : EvD K lk ta ρ (.int i)) (hb : EvD K lk tb ρ (.int j)) (h : CMulW i j) : EvD K lk (tOp (rI CMulW fun i j => .int (i * j)) ta tb) ρ (.int (i * j)) := ev_op2 ha hb (rv_I h fun _ => rfl)
theorem ev_divW (ha : EvD K lk ta ρ (.int i)) (hb : EvD K lk tb ρ (.int j)) (h : CDivW i j) : EvD K lk (tOp (rI CDivW fun i j => .int (i / j)) ta tb) ρ (.int (i / j)) := ev_op2 ha hb (rv_I h fun _ => rfl)
theorem ev_mod (ha : EvD K lk ta ρ (.int i)) (hb : EvD K lk tb ρ (.int j)) (h : 0 < j) : EvD K lk (tOp (rI (fun _ j => 0 < j) fun i j => .int (i % j)) ta tb) ρ (.int (i % j)) := ev_op2 ha hb (rv_I (C := fun _ j => 0 < j) h fun _ => rfl)
theorem ev_pow (ha : EvD K lk ta ρ (.int i)) (hb : EvD K lk tb ρ (.int j)) (h : CPow i j) : EvD K lk (tOp (rI CPow fun i j => .int (i ^ j.toNat)) ta tb) ρ (.int (i ^ j.toNat)) := ev_op2 ha hb (rv_I h fun _ => rfl)
theorem ev_lt (ha : EvD K lk ta ρ (.int i)) (hb : EvD K lk tb ρ (.int j)) : EvD K lk (tOp (rI0 fun i j => .bl (decide (i < j))) ta tb) ρ (.bl (decide (i < j))) := ev_op2 ha hb (rv_I0 fun _ => rfl)
theorem ev_le (ha : EvD K lk ta ρ (.int i)) (hb : EvD K lk tb ρ (.int j)) : EvD K lk (tOp (rI0 fun i j => .bl (decide (i ≤ j))) ta tb) ρ (.bl (decide (i ≤ j))) := ev_op2 ha hb (rv_I0 fun _ => rfl)
theorem ev_gt (ha : EvD K lk ta ρ (.int i)) (hb : EvD K lk tb ρ (.int j)) : EvD K lk (tOp (rI0 fun i j => .bl (decide (j < i))) ta tb) ρ (.bl (decide (j < i))) := ev_op2 ha hb (rv_I0 fun _ => rfl)
theorem ev_ge (ha : EvD K lk ta ρ (.int i)) (hb : EvD K lk tb ρ (.int j)) : EvD K lk (tOp (rI0 fun i j => .bl (decide (j ≤ i))) ta tb) ρ (.bl (decide (j ≤ i))) := ev_op2 ha hb (rv_I0 fun _ => rfl)
theorem ev_neg (ha : EvD K lk ta ρ (.int i)) : EvD K lk (tUn (rU fun i => .int (-i)) ta) ρ (.int (-i)) := fun w0 w σ s Q g =>
  ha w0 w σ s _ fun v w1 x l1 ok1 r1 a => by
    subst a
    exact ⟨i, r1, (g.up l1).here (d := .int (-i)) ok1 rfl rfl⟩
end
/-! ### == and != of flat things -/
def flatD : D → D → Bool
  | .int _, .int _ => true
  | .bl _, .bl _ => true
  | .str _, .str _ => true
  | .non, .non => true
  | .int _, .str _ => true
  | .str _, .int _ => true
  | .bl _, .str _ => true
  | .str _, .bl _ => true
  | .non, .int _ => true
  | .int _, .non => true
  | .non, .bl _ => true
  | .bl _, .non => true
  | .non, .str _ => true
  | .str _, .non => true
  | _, _ => false
def eqF : D → D → Bool
  | .int a, .int b => decide (a = b)
  | .bl a, .bl b => decide (a = b)
  | .str a, .str b => decide (a = b)
  | .non, .non => true
  | _, _ => false
theorem scal_of {I : Hp} {v u : V} (h : flatD x y = true) (r1 : Rp K I x v) (r2 : Rp K I y u) : scal v u = true ∧ decide (v = u) = eqF x y := by
  cases x <;> cases y <;> first
    | (exfalso; revert h; exact fun z => Bool.noConfusion z)
    | (rw [show v = _ from r1, show u = _ from r2]; refine ⟨rfl, ?_⟩; simp [eqF])
theorem ev_eq (ha : EvD K lk ta ρ x) (hb : EvD K lk tb ρ y) (h : flatD x y = true) : EvD K lk (tOp rEq ta tb) ρ (.bl (eqF x y)) := ev_op2 ha hb fun w v u ok _ r1 r2 Q q => by
  obtain ⟨s1, s2⟩ := scal_of h r1 r2
  exact ⟨s1, by rw [s2]; exact q.here (d := .bl _) ok rfl rfl⟩
theorem ev_ne (ha : EvD K lk ta ρ x) (hb : EvD K lk tb ρ y) (h : flatD x y = true) : EvD K lk (tOp rNe ta tb) ρ (.bl (!eqF x y)) := ev_op2 ha hb fun w v u ok _ r1 r2 Q q => by
  obtain ⟨s1, s2⟩ := scal_of h r1 r2
  exact ⟨s1, by rw [s2]; exact q.here (d := .bl _) ok rfl rfl⟩
/-! ### items -/
theorem at_rp {I : Hp} {ds : List D} {vs : List V} {i : Int} (r : RpL K I ds vs) (h : atI ds i = some d) : ∃ v, atI vs i = some v ∧ Rp K I d v := by
  unfold atI at h ⊢
  rw [r.length]
  cases e : ixN ds.length i with
  | none => rw [e] at h; cases h
  | some j =>
    rw [e] at h
    obtain ⟨v, e1, e2⟩ := r.get (i := j) h
    exact ⟨v, e1, e2⟩
theorem ev_ixT {ds : List D} {i : Int} (ha : EvD K lk ta ρ (.tup ds)) (hb : EvD K lk tb ρ (.int i)) (h : atI ds i = some d) : EvD K lk (tOp (rIxT K) ta tb) ρ d := ev_op2 ha hb fun w v u ok _ r1 r2 Q q => by
  obtain ⟨a, xs, e, s, r⟩ := r1
  obtain ⟨z, h1, h2⟩ := at_rp r h
  exact ⟨a, xs, i, z, e, r2, sqT_keeps (.of_same ok.sub) s, h1, q.here ok h2 rfl⟩
theorem ev_ixL {ds : List D} {i : Int} (ha : EvD K lk ta ρ (.lst ds)) (hb : EvD K lk tb ρ (.int i)) (h : atI ds i = some d) : EvD K lk (tOp (rIxL K) ta tb) ρ d := ev_op2 ha hb fun w v u ok _ r1 r2 Q q => by
  obtain ⟨a, xs, e, s, r⟩ := r1
  obtain ⟨z, h1, h2⟩ := at_rp r h
  exact ⟨a, xs, i, z, e, r2, sqL_keeps (.of_same ok.sub) s, h1, q.here ok h2 rfl⟩
theorem sqLH {w : Wd} (ok : w.Ok) {a : Addr} {xs : List V} (h : SqL K w.I a xs) : SqL K w.H a xs := sqL_keeps (.of_same ok.sub) h
theorem sqTH {w : Wd} (ok : w.Ok) {a : Addr} {xs : List V} (h : SqT K w.I a xs) : SqT K w.H a xs := sqT_keeps (.of_same ok.sub) h
/-! ### argument lists, tuples, lists -/
theorem ArOk.mono {w w' : Wd} (l : w.le w') : ∀ {a : Ar} {v : V}, ArOk K w a v → ArOk K w' a v
  | .d x, v, r => Rp.mono l.I r
  | .tp, v, ⟨a, e, t⟩ => ⟨a, e, l.tp.trans t⟩
theorem ArsOk.mono {w w' : Wd} (l : w.le w') : ∀ {as : List Ar} {vs : List V}, ArsOk K w as vs → ArsOk K w' as vs
  | [], _, r => r
  | a :: as, _, ⟨v, s, e, r, q⟩ => ⟨v, s, e, r.mono l, ArsOk.mono l q⟩
theorem ea_nil : EvA K lk tNil ρ (fun as => as = []) := fun w0 w σ s Q g => g [] w [] (.refl w) s.ok rfl rfl
theorem ea_cons' {tr : TA} {C : List Ar → Prop} {R : List Ar → Prop} (h : EvS K lk ta ρ A) (hr : EvA K lk tr ρ C) (i : ∀ d as, A d → C as → R (.d d :: as)) : EvA K lk (tCons ta tr) ρ R := fun w0 w σ s Q g =>
  h w0 w σ s _ fun v w1 x l1 ok1 r1 a => hr w0 w1 σ (s.mono l1 ok1) _ fun vs w2 as l2 ok2 r2 c => g _ w2 (.d x :: as) (l1.trans l2) ok2 ⟨v, vs, rfl, r1.mono l2.I, r2⟩ (i x as a c)
theorem ea_cons {tr : TA} {as : List Ar} (h : EvD K lk ta ρ d) (hr : EvA K lk tr ρ (fun x => x = as)) : EvA K lk (tCons ta tr) ρ (fun x => x = .d d :: as) := ea_cons' h hr fun _ _ a b => by rw [a, b]
theorem ea_tape {tr : TA} {C R : List Ar → Prop} {i : Nat} (h : ρ[i]? = some .tape) (hr : EvA K lk tr ρ C) (j : ∀ as, C as → R (.tp :: as)) : EvA K lk (tCons (tVar i) tr) ρ R := fun w0 w σ s Q g => by
  obtain ⟨a, e, t⟩ := s.sl i _ h
  exact ⟨.ref a, e, hr w0 w σ s _ fun vs w2 as l2 ok2 r2 c => g _ w2 (.tp :: as) l2 ok2 ⟨.ref a, vs, rfl, ⟨a, rfl, l2.tp.trans t⟩, r2⟩ (j as c)⟩
def dats : List D → List Ar := List.map Ar.d
theorem ars_dats {w : Wd} : ∀ {ds : List D} {vs : List V}, ArsOk K w (dats ds) vs → RpL K w.I ds vs
  | [], _, r => r
  | d :: ds, _, ⟨v, s, e, r, q⟩ => ⟨v, s, e, r, ars_dats q⟩
theorem ars_one {w : Wd} {vs : List V} (h : ArsOk K w [.d d] vs) : ∃ v, vs = [v] ∧ Rp K w.I d v := by
  obtain ⟨v, s, e, r, q⟩ := h
  exact ⟨v, by rw [e, show s = [] from q], r⟩
theorem ars_two {w : Wd} {vs : List V} {a b : Ar} (h : ArsOk K w [a, b] vs) : ∃ v u, vs = [v, u] ∧ ArOk K w a v ∧ ArOk K w b u := by
  obtain ⟨v, s, e, r, u, s', e', r', q⟩ := h
  exact ⟨v, u, by rw [e, e', show s' = [] from q], r, r'⟩
theorem ev_tup' {ta : TA} {C : List Ar → Prop} (h : EvA K lk ta ρ C) (i : ∀ as, C as → ∃ ds, as = dats ds ∧ ds.length ≤ 1000 ∧ P (.tup ds)) : EvS K lk (tTup ta) ρ P := fun w0 w σ s Q g =>
  h w0 w σ s _ fun vs w1 as l1 ok1 r1 c => by
    obtain ⟨ds, rfl, hl, p⟩ := i as c
    have r := ars_dats r1
    refine ⟨by rw [r.length]; exact Nat.le_trans hl (by decide), fun a ha => ?_⟩
    exact (g.up l1).new (d := .tup ds) ok1 ha True.intro ⟨a, vs, rfl, .inl (.inl upd_same), r.mono (same_new (notI ok1 ha))⟩ p
theorem ev_tup {ta : TA} {ds : List D} (h : EvA K lk ta ρ (fun x => x = dats ds)) (hl : ds.length ≤ 1000 := by exact Nat.le_of_ble_eq_true rfl) : EvD K lk (tTup ta) ρ (.tup ds) := ev_tup' h fun as e => ⟨ds, e, hl, rfl⟩
theorem ev_lst' {ta : TA} {C : List Ar → Prop} (h : EvA K lk ta ρ C) (i : ∀ as, C as → ∃ ds, as = dats ds ∧ ds.length ≤ 1000 ∧ P (.lst ds)) : EvS K lk (tLst ta) ρ P := fun w0 w σ s Q g =>
  h w0 w σ s _ fun vs w1 as l1 ok1 r1 c => by
    obtain ⟨ds, rfl, hl, p⟩ := i as c
    have r := ars_dats r1
    refine ⟨by rw [r.length]; exact Nat.le_trans hl (by decide), fun a ha => ?_⟩
    exact (g.up l1).new (d := .lst ds) ok1 ha True.intro ⟨a, vs, rfl, .inl (.inl upd_same), r.mono (same_new (notI ok1 ha))⟩ p
theorem ev_lst {ta : TA} {ds : List D} (h : EvA K lk ta ρ (fun x => x = dats ds)) (hl : ds.length ≤ 1000 := by exact Nat.le_of_ble_eq_true rfl) : EvD K lk (tLst ta) ρ (.lst ds) := ev_lst' h fun as e => ⟨ds, e, hl, rfl⟩
/-! ### calls -/
/-- a def's promise over data -/
def spP (K : PySem.W.Frag) (needs : Bool) {α : Type} (enc : α → List Ar) (pre : α → Prop) (post : α → D → Prop) : Sp := fun vs H Q _ =>
  ∃ (x : α) (w : Wd), w.H = H ∧ w.Ok ∧ (needs = true → w.lk = false) ∧ ArsOk K w (enc x) vs ∧ pre x ∧ Gets K w (post x) Q
theorem ev_call' {needs : Bool} {α : Type} {enc : α → List Ar} {pre : α → Prop} {post : α → D → Prop} {E : XK} {ta : TA} {C : List Ar → Prop} (hn : needs = true → lk = false) (h : EvA K lk ta ρ C)
    (i : ∀ as, C as → ∃ x, as = enc x ∧ pre x ∧ ∀ d, post x d → P d) : EvS K lk (tCall (spP K needs enc pre post) [] E ta) ρ P := fun w0 w σ s Q g =>
  h w0 w σ s _ fun vs w1 as l1 ok1 r1 c => by
    obtain ⟨x, rfl, p, k⟩ := i as c
    rw [List.append_nil]
    exact ⟨x, w1, rfl, ok1, fun n => by rw [l1.lk, s.lk]; exact hn n, r1, p, (g.up l1).imp k⟩
theorem ev_call {needs : Bool} {α : Type} {enc : α → List Ar} {pre : α → Prop} {post : α → D → Prop} {E : XK} {ta : TA} (x : α) (h : EvA K lk ta ρ (fun as => as = enc x)) (p : pre x) (hn : needs = true → lk = false := by intro h; cases h) :
    EvS K lk (tCall (spP K needs enc pre post) [] E ta) ρ (post x) := ev_call' hn h fun as e => ⟨x, e, p, fun _ q => q⟩
/-- built-ins -/
theorem ev_cb {f : List V → Hp → VK → Prop} {ta : TA} {C : List Ar → Prop} (h : EvA K lk ta ρ C) (i : ∀ as, C as → RcS K lk f as P) : EvS K lk (tCB f ta) ρ P := fun w0 w σ s Q g =>
  h w0 w σ s _ fun vs w1 as l1 ok1 r1 c => i as c w1 vs ok1 (l1.lk.trans s.lk) r1 Q (g.up l1)
theorem ev_cb1 {f : List V → Hp → VK → Prop} {ta : TA} {as : List Ar} (h : EvA K lk ta ρ (fun x => x = as)) (i : RcS K lk f as P) : EvS K lk (tCB f ta) ρ P := ev_cb h fun _ e => by rw [e]; exact i
/-! ### tests -/
theorem et_test {b : Bool} (h : EvD K lk te ρ (.bl b)) : EvB K lk (tTest te) ρ b := fun w0 w σ s Q g => h w0 w σ s _ fun v w1 x l1 ok1 r1 a => by
  subst a
  exact ⟨b, r1, g b w1 l1 ok1 rfl⟩
theorem et_B {b : Bool} (h : EvD K lk te ρ (.bl b)) : EvB K lk (tB te) ρ b := fun w0 w σ s Q g => h w0 w σ s _ fun v w1 x l1 ok1 r1 a => by
  subst a
  exact ⟨b, r1, g b w1 l1 ok1 rfl⟩
theorem et_test' {T : Bool → Prop} (h : EvS K lk te ρ (fun d => ∃ b, d = .bl b ∧ T b)) : EvT K lk (tTest te) ρ T := fun w0 w σ s Q g => h w0 w σ s _ fun v w1 x l1 ok1 r1 a => by
  obtain ⟨b, rfl, t⟩ := a
  exact ⟨b, r1, g b w1 l1 ok1 t⟩
theorem et_B' {T : Bool → Prop} (h : EvS K lk te ρ (fun d => ∃ b, d = .bl b ∧ T b)) : EvT K lk (tB te) ρ T := fun w0 w σ s Q g => h w0 w σ s _ fun v w1 x l1 ok1 r1 a => by
  obtain ⟨b, rfl, t⟩ := a
  exact ⟨b, r1, g b w1 l1 ok1 t⟩
theorem et_and' {T U : Bool → Prop} (h1 : EvT K lk tt ρ T) (hf : T false → U false) (h2 : T true → EvT K lk tu ρ U) : EvT K lk (tAnd tt tu) ρ U := fun w0 w σ s Q g => h1 w0 w σ s _ fun b w1 l1 ok1 a => by
  cases b with
  | true => exact h2 a w0 w1 σ (s.mono l1 ok1) Q fun c w2 l2 ok2 u => g c w2 (l1.trans l2) ok2 u
  | false => exact g false w1 l1 ok1 (hf a)
theorem et_or' {T U : Bool → Prop} (h1 : EvT K lk tt ρ T) (hf : T true → U true) (h2 : T false → EvT K lk tu ρ U) : EvT K lk (tOr tt tu) ρ U := fun w0 w σ s Q g => h1 w0 w σ s _ fun b w1 l1 ok1 a => by
  cases b with
  | false => exact h2 a w0 w1 σ (s.mono l1 ok1) Q fun c w2 l2 ok2 u => g c w2 (l1.trans l2) ok2 u
  | true => exact g true w1 l1 ok1 (hf a)
theorem et_and {a b : Bool} (h1 : EvB K lk tt ρ a) (h2 : a = true → EvB K lk tu ρ b) : EvB K lk (tAnd tt tu) ρ (a && b) := et_and' h1 (fun e => by rw [← e]; rfl) fun e => by
  have e : a = true := e.symm
  subst e
  exact h2 rfl
theorem et_or {a b : Bool} (h1 : EvB K lk tt ρ a) (h2 : a = false → EvB K lk tu ρ b) : EvB K lk (tOr tt tu) ρ (a || b) := et_or' h1 (fun e => by rw [← e]; rfl) fun e => by
  have e : a = false := e.symm
  subst e
  exact h2 rfl
theorem et_not {a : Bool} (h1 : EvB K lk tt ρ a) : EvB K lk (tNot tt) ρ (!a) := fun w0 w σ s Q g => h1 w0 w σ s _ fun b w1 l1 ok1 e => g _ w1 l1 ok1 (by rw [e])
theorem et_yes : EvB K lk tYes ρ true := fun w0 w σ s Q g => g true w (.refl w) s.ok rfl
theorem ev_andV {a b : Bool} (h1 : EvD K lk ta ρ (.bl a)) (h2 : a = true → EvD K lk tb ρ (.bl b)) : EvD K lk (tAndV ta tb) ρ (.bl (a && b)) := fun w0 w σ s Q g => h1 w0 w σ s _ fun v w1 x l1 ok1 r1 e => by
  subst e
  refine ⟨a, r1, ?_⟩
  cases a with
  | true => exact h2 rfl w0 w1 σ (s.mono l1 ok1) Q (g.up l1)
  | false => exact (g.up l1).here (d := .bl false) ok1 rfl rfl
theorem ev_orV {a b : Bool} (h1 : EvD K lk ta ρ (.bl a)) (h2 : a = false → EvD K lk tb ρ (.bl b)) : EvD K lk (tOrV ta tb) ρ (.bl (a || b)) := fun w0 w σ s Q g => h1 w0 w σ s _ fun v w1 x l1 ok1 r1 e => by
  subst e
  refine ⟨a, r1, ?_⟩
  cases a with
  | false => exact h2 rfl w0 w1 σ (s.mono l1 ok1) Q (g.up l1)
  | true => exact (g.up l1).here (d := .bl true) ok1 rfl rfl
theorem ev_notV {a : Bool} (h1 : EvD K lk ta ρ (.bl a)) : EvD K lk (tNotV ta) ρ (.bl (!a)) := fun w0 w σ s Q g => h1 w0 w σ s _ fun v w1 x l1 ok1 r1 e => by
  subst e
  exact ⟨a, r1, (g.up l1).here (d := .bl (!a)) ok1 rfl rfl⟩
theorem ev_if' {T : Bool → Prop} (h : EvT K lk tt ρ T) (h1 : T true → EvS K lk ta ρ P) (h2 : T false → EvS K lk tb ρ P) : EvS K lk (tIf tt ta tb) ρ P := fun w0 w σ s Q g => h w0 w σ s _ fun b w1 l1 ok1 e => by
  cases b with
  | true => exact h1 e w0 w1 σ (s.mono l1 ok1) Q (g.up l1)
  | false => exact h2 e w0 w1 σ (s.mono l1 ok1) Q (g.up l1)
theorem ev_if {b : Bool} (h : EvB K lk tt ρ b) (h1 : b = true → EvS K lk ta ρ P) (h2 : b = false → EvS K lk tb ρ P) : EvS K lk (tIf tt ta tb) ρ P := ev_if' h (fun e => h1 e.symm) fun e => h2 e.symm
end
end RF

set_option Elab.async false
set_option linter.all false
set_option maxRecDepth 100000
set_option maxHeartbeats 4000000
set_option autoImplicit false
namespace RF
open PySem L2

/-! ### statements -/
structure Po where
  nx : List Sl → Prop
  rt : D → Prop
  bk : List Sl → Prop := fun _ => False
  ct : List Sl → Prop := fun _ => False
structure Fits (K : PySem.W.Frag) (lk : Bool) (w0 : Wd) (E : Ends) (p : Po) : Prop where
  nx : ∀ (σ : St) (w : Wd) (ρ : List Sl), Sr K lk w0 w σ ρ → p.nx ρ → E.nx σ w.H
  rt : ∀ (v : V) (w : Wd) (d : D), w0.le w → w.Ok → Rp K w.I d v → p.rt d → E.rt v w.H
  bk : ∀ (σ : St) (w : Wd) (ρ : List Sl), Sr K lk w0 w σ ρ → p.bk ρ → E.bk σ w.H
  ct : ∀ (σ : St) (w : Wd) (ρ : List Sl), Sr K lk w0 w σ ρ → p.ct ρ → E.ct σ w.H
def StS (K : PySem.W.Frag) (lk : Bool) (t : TS) (ρ : List Sl) (p : Po) : Prop := ∀ (w0 w : Wd) (σ : St) (E : Ends), Sr K lk w0 w σ ρ → Fits K lk w0 E p → t E σ w.H
/-- a target gets a datum; js: the slots that change -/
def SameBut (js : List Nat) (σ σ' : St) : Prop := σ'.length = σ.length ∧ ∀ i : Nat, i ∉ js → σ'[i]? = σ[i]?
def TgS (K : PySem.W.Frag) (lk : Bool) (g : TG) (js : List Nat) (x : D) (ρ ρ' : List Sl) : Prop := ∀ (w0 w : Wd) (σ : St) (v : V), Sr K lk w0 w σ ρ → Rp K w.I x v → ∀ Q : St → Hp → Prop, (∀ σ', (∀ w', Sr K lk w0 w' σ ρ → Same w.I w'.I → Sr K lk w0 w' σ' ρ') → SameBut js σ σ' → Q σ' w.H) → g v σ w.H Q
/-- an iterator, from a world on, gives these data -/
structure Yields (K : PySem.W.Frag) (w : Wd) (J : It) (xs : List D) : Prop where
  go : ∀ (i : Nat) (w' : Wd), w'.Ok → Same w.I w'.I → i < xs.length → J.go i w'.H
  yld : ∀ (i : Nat) (w' : Wd) (v : V) (H' : Hp), w'.Ok → Same w.I w'.I → J.yld i w'.H v H' → ∀ x, xs[i]? = some x → ∃ w2 : Wd, w2.H = H' ∧ w'.le w2 ∧ w2.Ok ∧ Rp K w2.I x v
  stop : ∀ (w' : Wd), w'.Ok → Same w.I w'.I → J.stop xs.length w'.H
def ItS (K : PySem.W.Frag) (lk : Bool) (wi : TI) (ρ : List Sl) (P : List D → Prop) : Prop := ∀ (w0 w : Wd) (σ : St), Sr K lk w0 w σ ρ → ∀ R : It → Hp → Prop, (∀ (J : It) (w' : Wd) (xs : List D), w.le w' → w'.Ok → P xs → Yields K w' J xs → R J w'.H) → wi σ w.H R

section
variable {K : PySem.W.Frag} {lk : Bool} {ρ : List Sl} {ta tb te : TE} {tt tu : TT} {A B P : D → Prop} {x y z d : D} {r : R2} {t u : TS} {p : Po} {g : TG} {wi : TI}
theorem Fits.up {w0 w1 : Wd} {E : Ends} (l : w0.le w1) (f : Fits K lk w0 E p) : Fits K lk w1 E p :=
  ⟨fun σ w ρ s h => f.nx σ w ρ (s.back l) h, fun v w d h ok r q => f.rt v w d (l.trans h) ok r q, fun σ w ρ s h => f.bk σ w ρ (s.back l) h, fun σ w ρ s h => f.ct σ w ρ (s.back l) h⟩
theorem StS.imp {q : Po} (h : StS K lk t ρ p) (h1 : ∀ r, p.nx r → q.nx r) (h2 : ∀ r, p.rt r → q.rt r) (h3 : ∀ r, p.bk r → q.bk r) (h4 : ∀ r, p.ct r → q.ct r) : StS K lk t ρ q := fun w0 w σ E s f =>
  h w0 w σ E s ⟨fun a b c d e => f.nx a b c d (h1 _ e), fun a b c d e g i => f.rt a b c d e g (h2 _ i), fun a b c d e => f.bk a b c d (h3 _ e), fun a b c d e => f.ct a b c d (h4 _ e)⟩
theorem st_next (h : p.nx ρ) : StS K lk tNext ρ p := fun w0 w σ E s f => f.nx σ w ρ s h
theorem st_break (h : p.bk ρ) : StS K lk tBreak ρ p := fun w0 w σ E s f => f.bk σ w ρ s h
theorem st_cont (h : p.ct ρ) : StS K lk tCont ρ p := fun w0 w σ E s f => f.ct σ w ρ s h
theorem st_seq (M : List Sl → Prop) (h : StS K lk t ρ { p with nx := M }) (k : ∀ ρ', M ρ' → StS K lk u ρ' p) : StS K lk (tSeq t u) ρ p := fun w0 w σ E s f =>
  h w0 w σ { E with nx := u E } s ⟨fun σ' w' ρ' s' m => k ρ' m w0 w' σ' E s' f, f.rt, f.bk, f.ct⟩
theorem st_ret (h : EvS K lk te ρ P) (k : ∀ d, P d → p.rt d) : StS K lk (tRet te) ρ p := fun w0 w σ E s f =>
  h w0 w σ s _ fun v w' d l ok r q => f.rt v w' d (s.le.trans l) ok r (k d q)
theorem st_asgG {js : List Nat} (h : EvS K lk te ρ P) (k : ∀ d, P d → ∃ ρ', TgS K lk g js d ρ ρ' ∧ p.nx ρ') : StS K lk (tAsg te g) ρ p := fun w0 w σ E s f =>
  h w0 w σ s _ fun v w' d l ok r q => by
    obtain ⟨ρ', tg, n⟩ := k d q
    exact tg w0 w' σ v (s.mono l ok) r _ fun σ' s' _ => f.nx σ' w' ρ' (s' w' (s.mono l ok) (Same.refl _)) n
theorem tg_name {i : Nat} : TgS K lk (gName i) [i] x ρ (ρ.set i (.dat x)) := fun w0 w σ v s r Q h => h _ (fun w' s' sm => s'.set i (r.mono sm)) ⟨List.length_set, fun j hj => by rw [List.getElem?_set_ne fun z => hj (by simp [z])]⟩
theorem st_asg {i : Nat} (h : EvS K lk te ρ P) (k : ∀ d, P d → p.nx (ρ.set i (.dat d))) : StS K lk (tAsg te (gName i)) ρ p := st_asgG h fun d q => ⟨_, tg_name, k d q⟩
/-- x = e, then the rest -/
theorem st_let {i : Nat} (h : EvS K lk te ρ P) (k : ∀ d, P d → StS K lk u (ρ.set i (.dat d)) p) : StS K lk (tSeq (tAsg te (gName i)) u) ρ p :=
  st_seq (fun ρ' => ∃ d, P d ∧ ρ' = ρ.set i (.dat d)) (st_asg h fun d q => ⟨d, q, rfl⟩) fun ρ' ⟨d, q, e⟩ => by rw [e]; exact k d q
theorem st_letD {i : Nat} (h : EvD K lk te ρ d) (k : StS K lk u (ρ.set i (.dat d)) p) : StS K lk (tSeq (tAsg te (gName i)) u) ρ p := st_let h fun _ e => by rw [e]; exact k
theorem st_letG {js : List Nat} (h : EvS K lk te ρ P) (k : ∀ d, P d → ∃ ρ', TgS K lk g js d ρ ρ' ∧ StS K lk u ρ' p) : StS K lk (tSeq (tAsg te g) u) ρ p :=
  st_seq (fun ρ' => StS K lk u ρ' p) (st_asgG h fun d q => k d q) fun ρ' h => h
theorem st_if' {T : Bool → Prop} (h : EvT K lk tt ρ T) (h1 : T true → StS K lk t ρ p) (h2 : T false → StS K lk u ρ p) : StS K lk (tIfS tt t u) ρ p := fun w0 w σ E s f => h w0 w σ s _ fun b w' l ok e => by
  cases b with
  | true => exact h1 e w0 w' σ E (s.mono l ok) f
  | false => exact h2 e w0 w' σ E (s.mono l ok) f
theorem st_if {b : Bool} (h : EvB K lk tt ρ b) (h1 : b = true → StS K lk t ρ p) (h2 : b = false → StS K lk u ρ p) : StS K lk (tIfS tt t u) ρ p := st_if' h (fun e => h1 e.symm) fun e => h2 e.symm
/-- an if, then the rest: each way goes on by itself -/
theorem st_ifq' {T : Bool → Prop} {v : TS} (h : EvT K lk tt ρ T) (h1 : T true → StS K lk (tSeq t v) ρ p) (h2 : T false → StS K lk (tSeq u v) ρ p) : StS K lk (tSeq (tIfS tt t u) v) ρ p := fun w0 w σ E s f => h w0 w σ s _ fun b w' l ok e => by
  cases b with
  | true => exact h1 e w0 w' σ E (s.mono l ok) f
  | false => exact h2 e w0 w' σ E (s.mono l ok) f
theorem st_ifq {b : Bool} {v : TS} (h : EvB K lk tt ρ b) (h1 : b = true → StS K lk (tSeq t v) ρ p) (h2 : b = false → StS K lk (tSeq u v) ρ p) : StS K lk (tSeq (tIfS tt t u) v) ρ p := st_ifq' h (fun e => h1 e.symm) fun e => h2 e.symm
theorem st_nextq (h : StS K lk u ρ p) : StS K lk (tSeq tNext u) ρ p := h
/-- what returns does not come to the rest -/
theorem st_retq (h : EvS K lk te ρ P) (k : ∀ d, P d → p.rt d) : StS K lk (tSeq (tRet te) u) ρ p := fun w0 w σ E s f =>
  h w0 w σ s _ fun v w' d l ok r q => f.rt v w' d (s.le.trans l) ok r (k d q)
theorem st_assoc {a b c : TS} (h : StS K lk (tSeq a (tSeq b c)) ρ p) : StS K lk (tSeq (tSeq a b) c) ρ p := h
theorem st_drop (h : EvS K lk te ρ P) (k : p.nx ρ) : StS K lk (tDrop te) ρ p := fun w0 w σ E s f =>
  h w0 w σ s _ fun v w' d l ok r q => f.nx σ w' ρ (s.mono l ok) k
/-! ### lists of the frame's own -/
theorem own_list {w0 w : Wd} {a : Addr} {xs : List D} {vs : List V} (ok : w.Ok) (h0 : w0.H a = none) (hi : w.I a = none) (ht : w.tp ≠ some a) (r : RpL K w.I xs vs) : OwnAt K w0 (w.put a (.lst vs)) (.lst xs) a :=
  ⟨h0, hi, ht, vs, upd_same, r⟩
theorem ars_len {w : Wd} : ∀ {as : List Ar} {vs : List V}, ArsOk K w as vs → vs.length = as.length
  | [], _, r => by rw [show _ = [] from r]; rfl
  | a :: as, _, ⟨v, s, e, r, q⟩ => by rw [e, List.length_cons, List.length_cons, ars_len q]
/-- x = [..], the list to be the frame's own -/
theorem st_own {i : Nat} {ta : TA} {ds : List D} (h : EvA K lk ta ρ (fun x => x = dats ds)) (k : StS K lk u (ρ.set i (.lst ds)) p) (hl : ds.length ≤ 1000 := by exact Nat.le_of_ble_eq_true rfl) : StS K lk (tSeq (tAsg (tLst ta) (gName i)) u) ρ p := fun w0 w σ E s f =>
  h w0 w σ s _ fun vs w1 as l1 ok1 r1 c => by
    subst c
    have r := ars_dats r1
    have s1 := s.mono l1 ok1
    refine ⟨by rw [r.length]; exact Nat.le_trans hl (by decide), fun a ha => ?_⟩
    exact k w0 (w1.put a (.lst vs)) _ E (s1.grow i True.intro ha (own_list ok1 (s1.le.dom a ha) (notI ok1 ha) (not_tape ok1 ha) r)) f
/-- xs.append(e) -/
theorem st_app' {i : Nat} {xs : List D} (hi : ρ[i]? = some (.lst xs)) (h : EvS K lk te ρ P) (hl : xs.length < 100000) (k : ∀ d, P d → p.nx (ρ.set i (.lst (xs ++ [d])))) :
    StS K lk (tDrop (tBM K "list" rAppend (tVar i) (tCons te tNil))) ρ p := fun w0 w σ E s f => by
  obtain ⟨a, ea, h0, hI, ht, vs, hH, r⟩ := s.sl i _ hi
  refine ⟨.ref a, ea, Or.inl ⟨rfl, vs, .inl (.inl hH)⟩, h w0 w σ s _ fun v w1 d l1 ok1 r1 c => ?_⟩
  have s1 := s.mono l1 ok1
  obtain ⟨a', ea', h0', hI', ht', vs', hH', r'⟩ := s1.sl i _ hi
  rw [ea] at ea'
  cases ea'
  refine ⟨a, vs', v, rfl, rfl, hH', by rw [r'.length]; exact Nat.lt_trans hl (by decide), ?_⟩
  exact f.nx σ (w1.put a (.lst (vs' ++ [v]))) _ (s1.own hi rfl ea (.lst (vs' ++ [v])) True.intro (own_list ok1 h0' hI' ht' (r'.snoc r1))) (k d c)
theorem st_app {i : Nat} {xs : List D} (hi : ρ[i]? = some (.lst xs)) (h : EvS K lk te ρ P) (hl : xs.length < 100000) (k : ∀ d, P d → StS K lk u (ρ.set i (.lst (xs ++ [d]))) p) :
    StS K lk (tSeq (tDrop (tBM K "list" rAppend (tVar i) (tCons te tNil))) u) ρ p := st_seq (fun ρ' => ∃ d, P d ∧ ρ' = ρ.set i (.lst (xs ++ [d]))) (st_app' hi h hl fun d q => ⟨d, q, rfl⟩) fun ρ' ⟨d, q, e⟩ => by rw [e]; exact k d q
/-- return xs, xs the frame's own -/
theorem st_retL {i : Nat} {xs : List D} (hi : ρ[i]? = some (.lst xs)) (k : p.rt (.lst xs)) : StS K lk (tRet (tVar i)) ρ p := fun w0 w σ E s f => by
  obtain ⟨a, ea, h0, hI, ht, vs, hH, r⟩ := s.sl i _ hi
  refine ⟨.ref a, ea, f.rt (.ref a) (w.fix a (.lst vs)) (.lst xs) (Wd.le_fix s.le h0 hI) (Wd.fix_ok s.ok hI hH ht) ?_ k⟩
  exact ⟨a, vs, rfl, .inl (.inl upd_same), r.mono (same_new hI)⟩
/-- tuple(xs), xs the frame's own -/
theorem ev_tupO {i : Nat} {xs : List D} (hi : ρ[i]? = some (.lst xs)) : EvD K lk (tCB (fun xs H Q => ∃ p ys, xs = [.ref p] ∧ ((SqL K H p ys ∧ ∀ l, H l = none → Q (.ref l) (upd H l (.tup ys))) ∨ (SqT K H p ys ∧ Q (.ref p) H))) (tCons (tVar i) tNil)) ρ (.tup xs) := fun w0 w σ s Q g => by
  obtain ⟨a, ea, h0, hI, ht, vs, hH, r⟩ := s.sl i _ hi
  exact ⟨.ref a, ea, a, vs, rfl, .inl ⟨.inl (.inl hH), fun l hl => g.new (d := .tup xs) s.ok hl True.intro ⟨l, vs, rfl, .inl (.inl upd_same), r.mono (same_new (notI s.ok hl))⟩ rfl⟩⟩
/-- a list of the frame's own is given up -/
theorem st_give {i : Nat} {xs : List D} (hi : ρ[i]? = some (.lst xs)) (k : StS K lk t (ρ.set i (.dat (.lst xs))) p) : StS K lk t ρ p := fun w0 w σ E s f => by
  obtain ⟨a, ea, h0, hI, ht, vs, hH, r⟩ := s.sl i _ hi
  have l : w0.le (w.fix a (.lst vs)) := Wd.le_fix s.le h0 hI
  have rr : Rp K (w.fix a (.lst vs)).I (.lst xs) (.ref a) := ⟨a, vs, rfl, .inl (.inl upd_same), r.mono (same_new hI)⟩
  refine k w0 (w.fix a (.lst vs)) σ E ⟨s.lk, l, Wd.fix_ok s.ok hI hH ht, by rw [List.length_set]; exact s.len, fun j t e => ?_, fun j m t t' b e1 e2 o1 o2 f1 f2 => ?_⟩ f
  · by_cases z : i = j
    · subst z
      rw [List.getElem?_set_self (List.getElem?_eq_some_iff.mp hi).1] at e
      cases e
      exact ⟨.ref a, ea, rr⟩
    · rw [List.getElem?_set_ne z] at e
      have q := s.sl j t e
      by_cases oj : isOwn t = true
      · obtain ⟨b, eb, ob⟩ := (SlOk.own oj).mp q
        have nb : b ≠ a := fun y => z (s.ap i j _ t a hi e rfl oj ea (by rw [← y]; exact eb))
        refine (SlOk.own oj).mpr ⟨b, eb, ob.mono ob.1 (same_new hI) rfl ?_ fun u hu => hu⟩
        show upd w.I a _ b = none
        rw [upd_ne nb]
        exact ob.2.1
      · cases t with
        | un => exact True.intro
        | dat d => obtain ⟨v, e3, r3⟩ := q; exact ⟨v, e3, r3.mono (same_new hI)⟩
        | tape => exact q
        | lst xs => exact absurd rfl oj
        | dk xs => exact absurd rfl oj
        | dt xs => exact absurd rfl oj
  · have other : ∀ {m : Nat} {t : Sl}, (ρ.set i (.dat (.lst xs)))[m]? = some t → isOwn t = true → ρ[m]? = some t := fun {m t} e o => by
      by_cases z : i = m
      · subst z
        rw [List.getElem?_set_self (List.getElem?_eq_some_iff.mp hi).1] at e
        cases e
        cases o
      · rw [List.getElem?_set_ne z] at e; exact e
    exact s.ap j m t t' b (other e1 o1) (other e2 o2) o1 o2 f1 f2
/-! ### targets -/
theorem tg_tup2 {i j : Nat} {a b : D} : TgS K lk (gTup K 2 (gCons (gName i) (gCons (gName j) gNil))) [i, j] (.tup [a, b]) ρ ((ρ.set i (.dat a)).set j (.dat b)) := fun w0 w σ v s r Q h => by
  obtain ⟨ad, xs, e, sq, x1, r1, e1, q1, x2, r2, e2, q2, e3⟩ := r
  subst e1 e2
  rw [show r2 = [] from e3] at sq
  refine ⟨ad, _, e, sqTH s.ok sq, rfl, x1, [x2], rfl, x2, [], rfl, rfl, h _ (fun w' s' sm => (s'.set i (q1.mono sm)).set j (q2.mono sm)) ⟨by rw [List.length_set, List.length_set], fun k hk => ?_⟩⟩
  rw [List.getElem?_set_ne fun z => hk (by simp [z]), List.getElem?_set_ne fun z => hk (by simp [z])]
theorem tg_tup3 {i j l : Nat} {a b c : D} : TgS K lk (gTup K 3 (gCons (gName i) (gCons (gName j) (gCons (gName l) gNil)))) [i, j, l] (.tup [a, b, c]) ρ (((ρ.set i (.dat a)).set j (.dat b)).set l (.dat c)) := fun w0 w σ v s r Q h => by
  obtain ⟨ad, xs, e, sq, x1, r1, e1, q1, x2, r2, e2, q2, x3, r3, e3, q3, e4⟩ := r
  subst e1 e2 e3
  rw [show r3 = [] from e4] at sq
  refine ⟨ad, _, e, sqTH s.ok sq, rfl, x1, [x2, x3], rfl, x2, [x3], rfl, x3, [], rfl, rfl, h _ (fun w' s' sm => ((s'.set i (q1.mono sm)).set j (q2.mono sm)).set l (q3.mono sm)) ⟨by rw [List.length_set, List.length_set, List.length_set], fun k hk => ?_⟩⟩
  rw [List.getElem?_set_ne fun z => hk (by simp [z]), List.getElem?_set_ne fun z => hk (by simp [z]), List.getElem?_set_ne fun z => hk (by simp [z])]
/-! ### what is walked -/
theorem it_list {xs : List D} (h : EvD K lk te ρ (.lst xs)) : ItS K lk (iList K te) ρ (fun ys => ys = xs) := fun w0 w σ s R k => h w0 w σ s _ fun v w1 d l1 ok1 r1 e => by
  subst e
  obtain ⟨a, vs, e, sq, r⟩ := r1
  refine ⟨a, e, ⟨vs, sqLH ok1 sq⟩, k _ w1 xs l1 ok1 rfl ⟨fun i w' ok' sm hi => ?_, fun i w' v' H' ok' sm y x hx => ?_, fun w' ok' sm => ?_⟩⟩
  · have hi' : i < vs.length := by rw [r.length]; exact hi
    exact ⟨vs, vs[i], sqLH ok' (sqL_keeps (.of_same sm) sq), List.getElem?_eq_getElem hi'⟩
  · obtain ⟨e', y⟩ := y
    obtain ⟨u, hu, ru⟩ := r.get hx
    have z := y vs (sqLH ok' (sqL_keeps (.of_same sm) sq))
    rw [hu] at z
    cases z
    exact ⟨w', e'.symm, .refl w', ok', ru.mono sm⟩
  · exact ⟨vs, sqLH ok' (sqL_keeps (.of_same sm) sq), Nat.le_of_eq r.length⟩
theorem it_tup {xs : List D} (h : EvD K lk te ρ (.tup xs)) : ItS K lk (iTup K te) ρ (fun ys => ys = xs) := fun w0 w σ s R k => h w0 w σ s _ fun v w1 d l1 ok1 r1 e => by
  subst e
  obtain ⟨a, vs, e, sq, r⟩ := r1
  refine ⟨a, e, ⟨vs, sqTH ok1 sq⟩, k _ w1 xs l1 ok1 rfl ⟨fun i w' ok' sm hi => ?_, fun i w' v' H' ok' sm y x hx => ?_, fun w' ok' sm => ?_⟩⟩
  · have hi' : i < vs.length := by rw [r.length]; exact hi
    exact ⟨vs, vs[i], sqTH ok' (sqT_keeps (.of_same sm) sq), List.getElem?_eq_getElem hi'⟩
  · obtain ⟨e', y⟩ := y
    obtain ⟨u, hu, ru⟩ := r.get hx
    have z := y vs (sqTH ok' (sqT_keeps (.of_same sm) sq))
    rw [hu] at z
    cases z
    exact ⟨w', e'.symm, .refl w', ok', ru.mono sm⟩
  · exact ⟨vs, sqTH ok' (sqT_keeps (.of_same sm) sq), Nat.le_of_eq r.length⟩
/-- lo, lo + 1, .., n of them -/
def rangeD (lo : Int) (n : Nat) : List D := (List.range n).map fun i => D.int (lo + (i : Nat))
theorem rangeD_len (lo : Int) (n : Nat) : (rangeD lo n).length = n := by unfold rangeD; rw [List.length_map, List.length_range]
theorem rangeD_get {lo : Int} {n i : Nat} (h : i < n) : (rangeD lo n)[i]? = some (.int (lo + (i : Nat))) := by
  unfold rangeD
  rw [List.getElem?_map, List.getElem?_range h]
  rfl
theorem yields_range {w : Wd} (lo : Int) (n : Nat) : Yields K w (Itr lo n) (rangeD lo n) := by
  refine ⟨fun i w' ok' sm hi => ?_, fun i w' v' H' ok' sm y x hx => ?_, fun w' ok' sm => ?_⟩
  · rw [rangeD_len] at hi; exact hi
  · obtain ⟨e', y⟩ := y
    have hi : i < n := by
      have := (List.getElem?_eq_some_iff.mp hx).1
      rw [rangeD_len] at this
      exact this
    rw [rangeD_get hi] at hx
    cases hx
    exact ⟨w', e'.symm, .refl w', ok', y⟩
  · rw [rangeD_len]; exact Nat.le_refl n
theorem it_range1 {ta : TA} {n : Int} (h : EvA K lk ta ρ (fun x => x = [.d (.int n)])) (h0 : -100000 ≤ n) (h1 : n ≤ 100000) : ItS K lk (iRng1 ta) ρ (fun ys => ys = rangeD 0 n.toNat) := fun w0 w σ s R k => h w0 w σ s _ fun vs w1 as l1 ok1 r1 e => by
  subst e
  obtain ⟨v, e, r⟩ := ars_one r1
  exact ⟨n, by rw [e, show v = .int n from r], by omega, by omega, k _ w1 _ l1 ok1 rfl (yields_range 0 n.toNat)⟩
theorem it_range2 {ta : TA} {lo n : Int} (h : EvA K lk ta ρ (fun x => x = [.d (.int lo), .d (.int n)])) (h0 : -100000 ≤ lo ∧ lo ≤ 100000) (h1 : -100000 ≤ n ∧ n ≤ 100000) : ItS K lk (iRng2 ta) ρ (fun ys => ys = rangeD lo (n - lo).toNat) := fun w0 w σ s R k => h w0 w σ s _ fun vs w1 as l1 ok1 r1 e => by
  subst e
  obtain ⟨v, u, e, rv, ru⟩ := ars_two r1
  exact ⟨lo, n, by rw [e, show v = .int lo from rv, show u = .int n from ru], ⟨by omega, by omega, by omega, by omega⟩, k _ w1 _ l1 ok1 rfl (yields_range lo (n - lo).toNat)⟩
/-! ### for -/
theorem st_for {js : List Nat} {X : List D → Prop} (hi : ItS K lk wi ρ X) (Iv : List D → Nat → List Sl → Prop) (h0 : ∀ xs, X xs → Iv xs 0 ρ)
    (hs : ∀ (xs : List D) (i : Nat) (x : D) (ρ1 : List Sl), X xs → xs[i]? = some x → Iv xs i ρ1 → ∃ ρ2, TgS K lk g js x ρ1 ρ2 ∧ StS K lk t ρ2 { nx := Iv xs (i + 1), ct := Iv xs (i + 1), bk := p.nx, rt := p.rt })
    (hd : ∀ xs ρ', X xs → Iv xs xs.length ρ' → p.nx ρ') : StS K lk (tFor wi g t) ρ p := fun w0 w σ E s f =>
  hi w0 w σ s _ fun J w1 xs l1 ok1 hX Y => by
    have s1 := (s.mono l1 ok1).rebase
    have lb : w0.le (w0.up w1) := Wd.le_up (s.le.trans l1) ok1
    have f1 := f.up lb
    refine ⟨fun i m σ' H' => m = xs.length - i ∧ i ≤ xs.length ∧ ∃ w' ρ', w'.H = H' ∧ Sr K lk (w0.up w1) w' σ' ρ' ∧ Iv xs i ρ', ⟨xs.length, by simp, Nat.zero_le _, w1, ρ, rfl, s1, h0 xs hX⟩, ?_⟩
    rintro i m σ' H' ⟨rfl, hle, w', ρ', rfl, s', iv⟩
    have sm : Same w1.I w'.I := s'.le.I
    by_cases hlt : i < xs.length
    · refine .inr ⟨Y.go i w' s'.ok sm hlt, fun σ2 H2 => ∃ w2 ρ2, w2.H = H2 ∧ Sr K lk (w0.up w1) w2 σ2 ρ2 ∧ Iv xs (i + 1) ρ2, fun σ2 H2 ⟨w2, ρ2, e2, s2, iv2⟩ => ⟨xs.length - (i + 1), by omega, rfl, hlt, w2, ρ2, e2, s2, iv2⟩, fun v H2 y => ?_⟩
      have hx : xs[i]? = some xs[i] := List.getElem?_eq_getElem hlt
      obtain ⟨w2, rfl, l2, ok2, r2⟩ := Y.yld i w' v H2 s'.ok sm y _ hx
      obtain ⟨ρ2, tg, st⟩ := hs xs i _ ρ' hX hx iv
      refine tg _ w2 σ' v (s'.mono l2 ok2) r2 _ fun σ3 st3 _ => ?_
      have s3 := st3 w2 (s'.mono l2 ok2) (Same.refl _)
      refine st _ w2 σ3 _ s3 ⟨fun σ4 w4 ρ4 s4 q => ⟨w4, ρ4, rfl, s4, q⟩, f1.rt, fun σ4 w4 ρ4 s4 q => f1.nx σ4 w4 ρ4 s4 q, fun σ4 w4 ρ4 s4 q => ⟨w4, ρ4, rfl, s4, q⟩⟩
    · have e : i = xs.length := by omega
      subst e
      exact .inl ⟨Y.stop w' s'.ok sm, f1.nx σ' w' ρ' s' (hd xs ρ' hX iv)⟩
/-- over known data, by an invariant of the slots -/
theorem st_forD {js : List Nat} {xs : List D} (hi : ItS K lk wi ρ (fun ys => ys = xs)) (Iv : Nat → List Sl → Prop) (h0 : Iv 0 ρ)
    (hs : ∀ (i : Nat) (x : D) (ρ1 : List Sl), xs[i]? = some x → Iv i ρ1 → ∃ ρ2, TgS K lk g js x ρ1 ρ2 ∧ StS K lk t ρ2 { nx := Iv (i + 1), ct := Iv (i + 1), bk := p.nx, rt := p.rt })
    (hd : ∀ ρ', Iv xs.length ρ' → p.nx ρ') : StS K lk (tFor wi g t) ρ p :=
  st_for (js := js) hi (fun _ => Iv) (fun _ _ => h0) (fun ys i x ρ1 e hx iv => hs i x ρ1 (by rw [← show ys = xs from e]; exact hx) iv) fun ys ρ' e iv => hd ρ' (by rw [← show ys = xs from e]; exact iv)
/-- .. then the rest -/
theorem st_forq {js : List Nat} {xs : List D} (hi : ItS K lk wi ρ (fun ys => ys = xs)) (Iv : Nat → List Sl → Prop) (h0 : Iv 0 ρ)
    (hs : ∀ (i : Nat) (x : D) (ρ1 : List Sl), xs[i]? = some x → Iv i ρ1 → ∃ ρ2, TgS K lk g js x ρ1 ρ2 ∧ StS K lk t ρ2 { nx := Iv (i + 1), ct := Iv (i + 1), bk := Iv xs.length, rt := p.rt })
    (hd : ∀ ρ', Iv xs.length ρ' → StS K lk u ρ' p) : StS K lk (tSeq (tFor wi g t) u) ρ p :=
  st_seq (fun ρ' => Iv xs.length ρ') (st_forD (js := js) hi Iv h0 hs fun ρ' h => h) hd
/-! ### while -/
theorem st_while (W : Nat → List Sl → Prop) (m0 : Nat) (h0 : W m0 ρ)
    (hs : ∀ m ρ', W m ρ' → ∃ b, EvB K lk tt ρ' b ∧ (b = true → StS K lk t ρ' { nx := fun ρ2 => ∃ m', m' < m ∧ W m' ρ2, ct := fun ρ2 => ∃ m', m' < m ∧ W m' ρ2, bk := p.nx, rt := p.rt }) ∧ (b = false → p.nx ρ')) : StS K lk (tWhile tt t) ρ p := fun w0 w σ E s f => by
  refine ⟨fun m σ' H' => ∃ w' ρ', w'.H = H' ∧ Sr K lk w0 w' σ' ρ' ∧ W m ρ', ⟨m0, w, ρ, rfl, s, h0⟩, ?_⟩
  rintro m σ' H' ⟨w', ρ', rfl, s', hw⟩
  obtain ⟨b, hb, h1, h2⟩ := hs m ρ' hw
  refine hb w0 w' σ' s' _ fun c w2 l2 ok2 e => ?_
  subst e
  cases c with
  | true => exact ⟨fun σ2 H2 => ∃ m', m' < m ∧ ∃ w3 ρ3, w3.H = H2 ∧ Sr K lk w0 w3 σ2 ρ3 ∧ W m' ρ3, fun σ2 H2 h => h, h1 rfl w0 w2 σ' _ (s'.mono l2 ok2) ⟨fun σ4 w4 ρ4 s4 ⟨m', hm, q⟩ => ⟨m', hm, w4, ρ4, rfl, s4, q⟩, f.rt, f.nx, fun σ4 w4 ρ4 s4 ⟨m', hm, q⟩ => ⟨m', hm, w4, ρ4, rfl, s4, q⟩⟩⟩
  | false => exact f.nx σ' w2 ρ' (s'.mono l2 ok2) (h2 rfl)
/-! ### list comprehensions -/
theorem wipe_at (σ : St) : ∀ (vs : List Nat) (i : Nat), (L2.wipe σ vs)[i]? = if i ∈ vs then (if i < σ.length then some none else none) else σ[i]?
  | [], i => by simp [L2.wipe]
  | v :: vs, i => by
    unfold L2.wipe
    by_cases e : v = i
    · subst e
      rw [if_pos (by simp)]
      by_cases h : v < σ.length
      · rw [List.getElem?_set_self (by rw [wipe_length]; exact h), if_pos h]
      · rw [if_neg h, List.getElem?_eq_none (by rw [List.length_set, wipe_length]; omega)]
    · rw [List.getElem?_set_ne e, wipe_at σ vs i]
      by_cases h : i ∈ vs
      · rw [if_pos h, if_pos (List.mem_cons_of_mem _ h)]
      · rw [if_neg h, if_neg (by simp [h]; exact fun z => e z.symm)]
theorem wipe_same {σ σ2 : St} {js vs : List Nat} (h : SameBut js (L2.wipe σ vs) σ2) (hj : ∀ j ∈ js, j ∈ vs) : L2.wipe σ2 vs = L2.wipe σ vs := by
  have hl : σ2.length = σ.length := by rw [h.1, wipe_length]
  refine List.ext_getElem? fun i => ?_
  rw [wipe_at, wipe_at, hl]
  by_cases e : i ∈ vs
  · rw [if_pos e, if_pos e]
  · rw [if_neg e, if_neg e, h.2 i fun z => e (hj i z), wipe_at, if_neg e]
theorem ev_lc {js vs : List Nat} {X : List D → Prop} (hi : ItS K lk wi ρ X) (Acc : List D → Nat → List D → Prop) (h0 : ∀ xs, X xs → Acc xs 0 []) (hl : ∀ xs, X xs → xs.length ≤ 100000) (hj : ∀ j ∈ js, j ∈ vs)
    (turn : ∀ (xs : List D) (i : Nat) (x : D) (ys : List D), X xs → xs[i]? = some x → Acc xs i ys → ∃ ρ2 T, TgS K lk g js x (wipeS ρ vs) ρ2 ∧ EvT K lk tt ρ2 T ∧ (T false → Acc xs (i + 1) ys) ∧ (T true → EvS K lk te ρ2 (fun d => Acc xs (i + 1) (ys ++ [d]))))
    (fin : ∀ xs ys, X xs → Acc xs xs.length ys → P (.lst ys)) : EvS K lk (tLc wi g tt te vs) ρ P := fun w0 w σ s Q gq =>
  hi w0 w σ s _ fun J w1 xs l1 ok1 hX Y Dl hD => by
    have s1 := s.mono l1 ok1
    have tpD : w1.tp ≠ some Dl := not_tape ok1 hD
    have hDI : w1.I Dl = none := notI ok1 hD
    refine ⟨fun i m H' => m = xs.length - i ∧ i ≤ xs.length ∧ ∃ w' ys us, w'.H = H' ∧ w1.le w' ∧ w'.Ok ∧ w'.I Dl = none ∧ w'.H Dl = some (.lst us) ∧ RpL K w'.I ys us ∧ Acc xs i ys ∧ us.length ≤ i,
      ⟨xs.length, by simp, Nat.zero_le _, w1.put Dl (.lst []), [], [], rfl, Wd.le_put (.refl w1) hD, Wd.put_ok ok1 hDI tpD True.intro, hDI, upd_same, rfl, h0 xs hX, Nat.le_refl _⟩, ?_⟩
    rintro i m H' ⟨rfl, hle, w', ys, us, rfl, l', ok', hI', hH', r', acc, hus⟩
    by_cases hlt : i < xs.length
    · have hx : xs[i]? = some xs[i] := List.getElem?_eq_getElem hlt
      obtain ⟨ρ2, T, tg, ht, hf, he⟩ := turn xs i _ ys hX hx acc
      refine .inr ⟨Y.go i w' ok' l'.I hlt, fun H2 => ∃ w2 zs ws, w2.H = H2 ∧ w1.le w2 ∧ w2.Ok ∧ w2.I Dl = none ∧ w2.H Dl = some (.lst ws) ∧ RpL K w2.I zs ws ∧ Acc xs (i + 1) zs ∧ ws.length ≤ i + 1,
        fun H2 ⟨w2, zs, ws, e2, q⟩ => ⟨xs.length - (i + 1), by omega, rfl, hlt, w2, zs, ws, e2, q⟩, fun v H2 y => ?_⟩
      obtain ⟨w2, rfl, l2, ok2, r2⟩ := Y.yld i w' v H2 ok' l'.I y _ hx
      have l12 := l'.trans l2
      have keepD : ∀ {wa : Wd}, w'.le wa → wa.I Dl = none ∧ wa.H Dl = some (.lst us) := fun {wa} la => ⟨la.fr Dl hI' (by rw [hH']; exact fun z => nomatch z), la.H Dl _ hH' (by rw [l'.tp]; exact tpD)⟩
      have sw2 := (s1.mono l12 ok2).wipe vs
      refine tg w0 w2 _ v sw2 r2 _ fun σ3 st3 sb => ⟨wipe_same sb hj, ht w0 w2 σ3 (st3 w2 sw2 (Same.refl _)) _ fun b w3 l3 ok3 eb => ?_⟩
      have s3 := st3 w2 sw2 (Same.refl _)
      have l23 := l2.trans l3
      cases b with
      | false =>
        exact ⟨w3, ys, us, rfl, l'.trans l23, ok3, (keepD l23).1, (keepD l23).2, r'.mono l23.I, hf eb, Nat.le_succ_of_le hus⟩
      | true =>
        refine he eb w0 w3 σ3 (s3.mono l3 ok3) _ fun vv w4 d l4 ok4 r4 ac => ?_
        have l24 := l23.trans l4
        obtain ⟨i4, h4⟩ := keepD l24
        have lt4 : us.length < sizeLine := Nat.lt_of_lt_of_le (Nat.lt_of_le_of_lt hus (Nat.lt_of_lt_of_le hlt (hl xs hX))) (by decide)
        refine ⟨us, h4, lt4, w4.put Dl (.lst (us ++ [vv])), ys ++ [d], us ++ [vv], rfl, Wd.le_put (l'.trans l24) hD, Wd.put_ok ok4 i4 (by rw [l24.tp, l'.tp]; exact tpD) True.intro, i4, upd_same, (r'.mono l24.I).snoc r4, ac, ?_⟩
        rw [List.length_append]
        exact Nat.succ_le_succ hus
    · have e : i = xs.length := by omega
      subst e
      refine .inl ⟨Y.stop w' ok' l'.I, gq (.ref Dl) (w'.fix Dl (.lst us)) (.lst ys) (Wd.le_fix (l1.trans l') (l1.dom Dl hD) hI') (Wd.fix_ok ok' hI' hH' (by rw [l'.tp]; exact tpD)) ?_ (fin xs ys hX acc)⟩
      exact ⟨Dl, us, rfl, .inl (.inl upd_same), r'.mono (same_new hI')⟩
/-- the same items picked and turned by plain functions -/
theorem filter_take_succ {α β : Type} {xs : List α} {i : Nat} {x : α} (f : α → Bool) (v : α → β) (h : xs[i]? = some x) : ((xs.take (i + 1)).filter f).map v = ((xs.take i).filter f).map v ++ (if f x then [v x] else []) := by
  rw [List.take_add_one, h, List.filter_append, List.map_append]
  congr 1
  show (([x] : List α).filter f).map v = _
  by_cases e : f x = true
  · rw [List.filter_cons, if_pos e, if_pos e]; rfl
  · rw [List.filter_cons, if_neg e, if_neg e]; rfl
theorem ev_lcD {js vs : List Nat} {xs : List D} (hi : ItS K lk wi ρ (fun ys => ys = xs)) (f : D → Bool) (v : D → D) (hl : xs.length ≤ 100000) (hj : ∀ j ∈ js, j ∈ vs)
    (turn : ∀ (i : Nat) (x : D), xs[i]? = some x → ∃ ρ2, TgS K lk g js x (wipeS ρ vs) ρ2 ∧ EvB K lk tt ρ2 (f x) ∧ (f x = true → EvD K lk te ρ2 (v x))) : EvD K lk (tLc wi g tt te vs) ρ (.lst ((xs.filter f).map v)) :=
  ev_lc (js := js) hi (fun _ i ys => ys = ((xs.take i).filter f).map v) (fun _ _ => by simp) (fun ys e => by rw [show ys = xs from e]; exact hl) hj
    (fun ys i x acc e hx ha => by
      rw [show ys = xs from e] at hx
      obtain ⟨ρ2, tg, ht, hv⟩ := turn i x hx
      refine ⟨ρ2, _, tg, ht, fun z => ?_, fun z => (hv z.symm).imp fun d ed => ?_⟩
      · rw [filter_take_succ f v hx, if_neg (by rw [← z]; decide), List.append_nil]; exact ha
      · rw [filter_take_succ f v hx, if_pos z.symm, ha, ed])
    fun ys zs e ha => by
      rw [show ys = xs from e, List.take_length] at ha
      rw [ha]
end
end RF

set_option Elab.async false
set_option linter.all false
set_option maxRecDepth 100000
set_option maxHeartbeats 4000000
set_option autoImplicit false
namespace RF
open PySem PySem.Spec L2

/-! ### tuples made with their object known: no dict of their own -/
def tTupF (t : TA) : TE := fun σ H Q => t σ H fun xs H1 => xs.length ≤ sizeLine ∧ ∀ p o, H1 p = none → o.dict = none → Q (.ref p) (upd H1 p (.frz o (.tup xs)))
def rCatF (K : PySem.W.Frag) : R2 := fun x y H Q => ∃ a b xs ys, x = .ref a ∧ y = .ref b ∧ SqT K H a xs ∧ SqT K H b ys ∧ xs.length + ys.length ≤ sizeLine ∧
  (xs = [] → Q (.ref b) H) ∧ (ys = [] → Q (.ref a) H) ∧ ∀ p o, H p = none → o.dict = none → Q (.ref p) (upd H p (.frz o (.tup (xs ++ ys))))
def rSlF (K : PySem.W.Frag) : V → Option Int → Option Int → Hp → VK → Prop := fun x lo hi H Q => ∃ a xs, x = .ref a ∧ SqT K H a xs ∧
  (HT.sIx xs.length 0 lo = 0 ∧ HT.sIx xs.length xs.length hi = xs.length → Q (.ref a) H) ∧ ∀ p o, H p = none → o.dict = none → Q (.ref p) (upd H p (.frz o (.tup (cutV xs lo hi))))
def rTupF (K : PySem.W.Frag) : List V → Hp → VK → Prop := fun xs H Q => ∃ p ys, xs = [.ref p] ∧ SqL K H p ys ∧ ∀ l o, H l = none → o.dict = none → Q (.ref l) (upd H l (.frz o (.tup ys)))
section
variable {X : Cx} {es : List Expr} {t : TA} {pos : Pos}
theorem pe_tupF {x1 : Nat} (h : PA X es t) : PE X (.Tuple es x1 pos) (tTupF t) := by
  refine ⟨fun pins s σ H Q I hq => ?_⟩
  refine wpAny_Tuple_spliced (thn (h.run pos pins s σ H _ I hq) fun us s1 hu => ?_)
  obtain ⟨xs, H1, I1, r, z, q⟩ := hu
  refine ⟨by rw [← r.length]; exact z, .ref s1.heap.objs.size, _, I1.laid (t' := s1.toks) (o := .frz _ (.tup xs)) (fun b u e => Heap.get?_push_of_some _ e) (Nat.le_refl _) ⟨Heap.get?_push_size _ rfl, z, us, r, ⟨_, Heap.get?_push_size _ rfl, rfl, _, rfl⟩⟩, rfl, q _ _ (I1.hok.fresh (Nat.le_refl _)) rfl⟩
theorem op_catF : OpR X (binaryOp .Add) (rCatF X.K) := by
  intro pins s σ H x y v u Q I rx ry h
  obtain ⟨a, b, xs, ys, rfl, rfl, ha, hb, hz, q0, q1, q2⟩ := h
  cases rx
  cases ry
  obtain ⟨its, r1, p1, _⟩ := I.tuple ha
  obtain ⟨its2, r2, p2, _⟩ := I.tuple hb
  by_cases hx : xs = []
  · subst hx
    cases r1
    exact cat_tup0 p1 p2 ⟨.ref b, H, I, rfl, q0 rfl⟩
  · refine HT.cat_tup p1 p2 (fun z => hx (r1.nil_iff.mp z)) (fun z => ⟨.ref a, H, I, rfl, q1 (r2.nil_iff.mp z)⟩) (fun z => ?_) (by rw [← r1.length, ← r2.length]; exact hz)
    refine ⟨.ref s.heap.objs.size, _, I.laid (t' := s.toks) (o := .frz _ (.tup (xs ++ ys))) (fun b ob q => Heap.get?_push_of_some _ q) (Nat.le_refl _) ⟨Heap.get?_push_size _ rfl, by rw [List.length_append]; exact hz, _, r1.append r2, PyProof.Rows.IsTup.new _ _⟩, rfl, q2 _ _ (I.hok.fresh (Nat.le_refl _)) rfl⟩
theorem sl_tupF : SlR X (rSlF X.K) := by
  intro pins s σ H x v vl vu lo hi sl Q I rx hs pl pu h
  obtain ⟨a, xs, rfl, hx, q1, q2⟩ := h
  cases rx
  obtain ⟨its, r, ht, hz⟩ := I.tuple hx
  have hlen : its.toArray.size = xs.length := by rw [List.size_toArray]; exact r.length.symm
  refine ⟨"tuple", _, PyProof.Rows.slot_tuple_getitem.lookup, ht.typeIs, ?_⟩
  by_cases hw : HT.sIx xs.length 0 lo = 0 ∧ HT.sIx xs.length xs.length hi = xs.length
  · exact getItem_tuple_whole ht hs pl pu (by rw [hlen]; exact hw) ⟨.ref a, H, I, rfl, q1 hw⟩
  · refine HT.getItem_tuple_cut ht hs pl pu (by rw [hlen]; exact hw) ?_ (by rw [hlen]; exact hz)
    rw [hlen]
    refine ⟨.ref s.heap.objs.size, _, I.laid (t' := s.toks) (o := .frz _ (.tup (cutV xs lo hi))) (fun b ob q => Heap.get?_push_of_some _ q) (Nat.le_refl _) ⟨Heap.get?_push_size _ rfl, Nat.le_trans (cutV_length xs lo hi) hz, _, (r.drop (HT.sIx xs.length 0 lo)).take (HT.sIx xs.length xs.length hi - HT.sIx xs.length 0 lo), PyProof.Rows.IsTup.new _ _⟩, rfl, q2 _ _ (I.hok.fresh (Nat.le_refl _)) rfl⟩
theorem cu_tupF : CallR X (.type "tuple") (rTupF X.K) := by
  intro pins s σ H xs us Q I r h
  obtain ⟨p, ys, rfl, hq, q⟩ := h
  obtain ⟨u, rfl, rx⟩ := vals1 r
  cases rx
  obtain ⟨its, r', pl, hz⟩ := I.list hq
  have hlen := r'.length
  refine call_tuple_list pl.isList (fun h' kp => ?_) (by simp only [List.size_toArray] <;> omega)
  have I1 : Inv X pins σ H { s with heap := h' } := I.kept (t' := s.toks) kp
  exact ⟨.ref h'.objs.size, _, I1.laid (t' := s.toks) (o := .frz _ (.tup ys)) (fun b o e => Heap.get?_push_of_some _ e) (Nat.le_refl _) ⟨Heap.get?_push_size _ rfl, hz, its, r', PyProof.Rows.IsTup.new _ _⟩, rfl, q _ _ (I1.hok.fresh (Nat.le_refl _)) rfl⟩
end

/-! ### t.count(s) of texts -/
theorem strs_dp {K : PySem.W.Frag} {H : Hp} : ∀ ss : List Str, DpAll K H (ss.map V.str) (ss.map PyData.str)
  | [] => .nil
  | s :: ss => .cons (.str s) (strs_dp ss)
theorem strs_plain : ∀ ss : List Str, PyData.plainAll (ss.map PyData.str) = true
  | [] => rfl
  | s :: ss => by rw [List.map_cons, PyData.plainAll, strs_plain ss]; rfl
theorem strs_count (s : Str) : ∀ ss : List Str, (ss.map PyData.str).countP (fun y => PyData.eqv y (.str s)) = ss.count s
  | [] => rfl
  | t :: ss => by
    rw [List.map_cons, List.countP_cons, List.count_cons, strs_count s ss]
    congr 1
theorem strs_depth : ∀ ss : List Str, PyData.depthAll (ss.map PyData.str) = 0
  | [] => rfl
  | s :: ss => by rw [List.map_cons, PyData.depthAll, strs_depth ss]; rfl
/-- t.count(s), t's object known -/
def tCount (ta : TE) (t : TA) : TE := fun σ H Q => ta σ H fun x H1 => ∃ (a : Addr) (o : Obj) (ss : List Str), x = .ref a ∧ H1 a = some (.frz o (.tup (ss.map V.str))) ∧ o.dict = none ∧
  t σ H1 fun ys H2 => ∃ s, ys = [.str s] ∧ H2 a = some (.frz o (.tup (ss.map V.str))) ∧ Q (.int ((ss.count s : Nat) : Int)) H2
theorem pu_count {X : Cx} {k : Nat} {o e : Expr} {apos cpos : Pos} {ta : TE} {t : TA} (hr : Room k X.A) (ho : PE X o ta) (ha : PA X [e] t)
    (hbase : attributeBase o "count" X.env (eval o X.env) = eval o X.env := by rfl) (hline : (apos.endLine == cpos.line) = true := by rfl)
    (hfew : ((backTo cpos (starEach [e] X.env)).all (fun x => !x.1) && (backToKw cpos (keywordEach [] X.env)).all (fun x => x.1.isSome) && decide ([e].length + ([] : List Keyword).length + (if ([] : List Keyword).isEmpty then 0 else 1) < 30)) = true := by rfl)
    (hs : starEach [e] X.env = [(false, eval e X.env)] := by rfl) : PE X (.Call (.Attribute o "count" apos) [e] [] cpos) (tCount ta t) := by
  refine ⟨fun pins s σ H Q I h => ?_⟩
  refine wpAny_Call_method (T := "tuple") (id := "tuple.count") hbase hfew hline PySem.F.plainAttrs_tuple PySem.F.slot_tuple_count PySem.F.type_tuple_count (thn (ho.run pins s σ H _ I h) fun v s1 hv => ?_)
  obtain ⟨x, H1, I1, rx, a, ob, ss, rfl, hH, hd, q⟩ := hv
  cases rx
  obtain ⟨hob, hz, its, rv, ht⟩ := I1.hok a _ hH
  refine ⟨ht.typeIs, fun b eb => ?_, ?_⟩
  · cases eb
    exact ⟨ob, hob, hd⟩
  · have hA := ha.run cpos pins s1 σ H1 _ I1 q
    rw [hs] at hA ⊢
    refine Calls.callWith_builtin (by rfl) (Calls.evalArgs_plain (thn hA fun us s2 hu => ?_))
    obtain ⟨vs, H2, I2, r2, z, rfl, hH2, q2⟩ := hu
    obtain ⟨u, rfl, ru⟩ := vals1 r2
    obtain ⟨tk, rfl⟩ := ru
    obtain ⟨its2, rv2, ht2, _⟩ := I2.tuple (.inl (.inr ⟨ob, hH2⟩) : SqT X.K H2 a (ss.map V.str))
    obtain ⟨as, r1⟩ := Dp.readsAll I2 _ _ its2 (strs_dp ss) rv2
    have hu := hr.units
    refine SeqAt.count_tuple_data (show s2.heap.IsTuple a its2.toArray from ht2) (by simpa using r1) (Reads.str z tk) (strs_plain ss) rfl (by rw [strs_depth]; show X.A.units + 1 + min 0 _ < _; omega) ?_
    rw [strs_count]
    exact ⟨.int _, H2, I2.tok _, ⟨_, rfl⟩, q2⟩
end RF

set_option Elab.async false
set_option linter.all false
set_option maxRecDepth 100000
set_option maxHeartbeats 4000000
set_option autoImplicit false
namespace RF
open PySem PySem.Spec L2

/-! ### enumerate(t), a tuple -/
theorem enum_new1 {v : Value} {o : Obj} {Hq : Heap → Prop} (B : Begins v o Hq) :
    Meets (Builtin.«enumerate.__new__» ⟨[.type "enumerate", v], []⟩) (fun _ R s => Hq s.heap ∧
      R (.ok (.ret (.ref (s.heap.push o).objs.size))) { s with heap := (s.heap.push o).push { cls := .type "enumerate", data := .fields #[.none, .bool false, .ref s.heap.objs.size, rawInt 0, .none, .none] } }) :=
  .of_wp fun prog w A R s h => by
    obtain ⟨hp, g, d, tk, os⟩ := s
    obtain ⟨h1, h⟩ := h
    have hsub := sub_enumerate
    have go : ∀ {A' : Around} {E : Value → Shared → Prop} {Q : Value → Shared → Prop}, Q (.ref hp.objs.size) ⟨hp.push o, g, d, tk, os⟩ → wpAny (model prog w) A' (pyIter v) Q E ⟨hp, g, d, tk, os⟩ :=
      fun q => B.iter prog w _ _ ⟨hp, g, d, tk, os⟩ _ h1 q
    wp_walk using go
    refine wpAny_stack_any fun st => wpAny_pure ?_
    split
    · rename_i c _ _ _ _ _
      cases (c == Value.type "enumerate") <;> (wp_walk using go; exact ⟨_, rfl, h⟩)
    · wp_walk using go
      exact ⟨_, rfl, h⟩
theorem enum_call1 {prog : Program} {w : World} {A : Around} {E : Value → Shared → Prop} {s : Shared} {t : Addr} {items : Array Value} {Q : Value → Shared → Prop} (ht : s.heap.IsTuple t items)
    (h : ∀ h', IsEnum h' (s.heap.objs.size + 1) s.heap.objs.size 0 .none → h'.IsTupleIter s.heap.objs.size t 0 → h'.objs.size = s.heap.objs.size + 2 →
      (∀ b o, s.heap.get? b = some o → h'.get? b = some o) → Q (.ref (s.heap.objs.size + 1)) { s with heap := h' }) :
    wpAny (model prog w) A (call (.type "enumerate") [.ref t]) Q E s := by
  refine callType_new F.called_enumerate (by decide) (F.typeCall_enumerate_1 _) (F.newCall_enumerate_1 _) (fun obj => F.args_object_init_2 obj _) F.entry_enumerate_new (enum_new1 (begins_tuple t items)) ⟨ht, ?_⟩
  generalize ho : ({ cls := .type "tuple_iterator", data := .fields #[.ref t, .int 0 0] } : Obj) = ob
  have hz : (s.heap.push ob).objs.size = s.heap.objs.size + 1 := Heap.size_push ..
  show _ ∧ _
  rw [hz]
  have he : IsEnum ((s.heap.push ob).push { cls := .type "enumerate", data := .fields #[.none, .bool false, .ref s.heap.objs.size, rawInt 0, .none, .none] }) (s.heap.objs.size + 1) s.heap.objs.size 0 .none := by
    have q := Heap.get?_push_size (s.heap.push ob) (o := { cls := .type "enumerate", data := .fields #[.none, .bool false, .ref s.heap.objs.size, rawInt 0, .none, .none] }) rfl
    rw [hz] at q
    exact q
  have hit : ((s.heap.push ob).push { cls := .type "enumerate", data := .fields #[.none, .bool false, .ref s.heap.objs.size, rawInt 0, .none, .none] }).IsTupleIter s.heap.objs.size t 0 :=
    ⟨ob, Heap.get?_push_of_some _ (Heap.get?_push_size _ (by rw [← ho]; rfl)), by rw [← ho], by rw [← ho]; rfl⟩
  exact ⟨⟨_, he, rfl⟩, h _ he hit (by rw [Heap.size_push, hz]) fun b o x => Heap.get?_push_of_some _ (Heap.get?_push_of_some _ x)⟩
/-- the tuple at a, each item in a new pair with its place -/
def ItEnT (K : PySem.W.Frag) (a : Addr) : It :=
  ⟨fun i H => ∃ (xs : List V) (x : V), SqT K H a xs ∧ xs[i]? = some x, fun i H v H' => ∃ T x, v = .ref T ∧ H T = none ∧ H' = upd H T (.tup [.int (i : Nat), x]) ∧ ∀ xs, SqT K H a xs → xs[i]? = some x, fun i H => ∃ xs : List V, SqT K H a xs ∧ xs.length = i⟩
theorem turn_enT {P : Program} {w : World} {K : PySem.W.Frag} {elts : List Expr} {kk : Nat} {tpos : Pos} (a e it : Addr) :
    Turn P w K (.Tuple elts kk tpos) (ItEnT K a) [e, it] e (fun i h => (∃ old, IsEnum h e it ((i : Nat) : Int) old) ∧ h.IsTupleIter it a i ∧ e ≠ it) where
  mem := by simp
  obj := fun i h st b hb => by
    obtain ⟨⟨old, he⟩, ⟨o, ho, hc, hd⟩, _⟩ := st
    rcases List.mem_cons.mp hb with z | z
    · rw [z]; exact ⟨_, he, fun v q => nomatch q⟩
    · rw [List.mem_singleton.mp z]; exact ⟨o, ho, fun v q => by rw [hd] at q; cases q⟩
  keep := fun i h h' st k => by
    obtain ⟨⟨old, he⟩, hi, hne⟩ := st
    exact ⟨⟨old, k e (by simp) _ he⟩, hi.at fun o q => k it (by simp) o q, hne⟩
  item := by
    intro X hP hw hK hc i pins s σ H E I hf st hg
    subst hP hw hK
    obtain ⟨⟨old, he⟩, hit, hne⟩ := st
    obtain ⟨xs, x, hq, hx⟩ := hg
    obtain ⟨its, rv, p, hz⟩ := I.tuple hq
    obtain ⟨u, hu, ru⟩ := rv.get hx
    have hel : e < s.heap.objs.size := Heap.lt_size he
    have hil : it < s.heap.objs.size := by
      obtain ⟨_, q, _⟩ := hit
      exact Heap.lt_size q
    have tp : s.heap.IsTuple a its.toArray := p
    have nai : a ≠ it := fun z => by
      obtain ⟨o1, q1, c1, _⟩ := tp
      obtain ⟨o2, q2, c2, _⟩ := hit
      rw [z, q2] at q1
      cases q1
      rw [c1] at c2
      exact absurd c2 (by decide)
    have nae : a ≠ e := fun z => by
      obtain ⟨o1, q1, c1, _⟩ := tp
      rw [z, show s.heap.get? e = some _ from he] at q1
      cases q1
      have c2 : Value.type "enumerate" = Value.type "tuple" := c1
      exact absurd c2 (by decide)
    have hsz : i < its.toArray.size := by
      have := (List.getElem?_eq_some_iff.mp hu).1
      simpa using this
    have D := Draws.tuple (prog := X.prog) (w := X.w) (A := X.A.in1) (I.ok.hd hc) it a nai its.toArray
    refine wpAny_pyNext_enum_itemD D he ⟨hit, tp⟩ hsz hne (by simp [Ne.symm nae, hne]) fun y h' tk hy ho hst hT hs hk => ?_
    have ey : y = u := by
      have hy : its.toArray[i]? = some y := hy
      rw [List.getElem?_toArray, hu] at hy
      exact (Option.some.inj hy).symm
    subst ey
    refine ⟨_, rfl, wpAny_letOwnedTupleGo_enum (s := { s with heap := h', toks := tk + 1 }) ho fun h'' he' sb => ?_⟩
    have hT2 : h''.get? s.heap.objs.size = some { cls := .type "tuple", data := .seq #[.int i tk, y] } := (sb.2 _ (Nat.ne_of_gt hel)).trans hT
    have new : ObjOk X.prog X.w (upd H s.heap.objs.size (.tup [.int (i : Nat), x])) h'' s.heap.objs.size (.tup [.int (i : Nat), x]) :=
      ⟨by show 2 ≤ sizeLine; decide, [.int i tk, y], .cons ⟨_, rfl⟩ (.cons ru .nil), ⟨_, hT2, rfl, _, rfl⟩⟩
    have I1 : Inv X pins σ (upd H s.heap.objs.size (.tup [.int (i : Nat), x])) { s with heap := h'', toks := tk + 1 } :=
      I.turnedNew (ch := [e, it]) (fun b ob hb q => (sb.2 b (fun z => hb (by simp [z]))).trans (hk b ob (fun z => hb (by simp [z])) (fun z => hb (by simp [z])) q)) hf (Nat.le_refl _) new
    refine ⟨.ref s.heap.objs.size, _, I1, rfl, ⟨_, x, rfl, I.hok.fresh (Nat.le_refl _), rfl, fun ys hy => by rw [I.tuple_inj hy hq]; exact hx⟩, ⟨⟨y, ?_⟩, hst.1.at fun o q => (sb.2 it (Ne.symm hne)).trans q, hne⟩, fun b hb => ?_⟩
    · rw [show ((i + 1 : Nat) : Int) = (i : Int) + 1 by omega]
      exact he'
    · have hb' : b < s.heap.objs.size := by
        rcases List.mem_cons.mp hb with z | z
        · rw [z]; exact hel
        · rw [List.mem_singleton.mp z]; exact hil
      rw [upd_ne (Nat.ne_of_lt hb')]
      exact (hf b hb).1
  done := by
    intro X hP hw hK hc i pins s σ H E I hf st hg
    subst hP hw hK
    obtain ⟨⟨old, he⟩, hit, hne⟩ := st
    obtain ⟨xs, hq, hx⟩ := hg
    obtain ⟨its, rv, p, hz⟩ := I.tuple hq
    obtain ⟨f0, f1, f2, f3, f4, f5⟩ := hf it (by simp)
    have tp : s.heap.IsTuple a its.toArray := p
    have nai : a ≠ it := fun z => by
      obtain ⟨o1, q1, c1, _⟩ := tp
      obtain ⟨o2, q2, c2, _⟩ := hit
      rw [z, q2] at q1
      cases q1
      rw [c1] at c2
      exact absurd c2 (by decide)
    have hl := rv.length
    have D := Draws.tuple (prog := X.prog) (w := X.w) (A := X.A.in1) (I.ok.hd hc) it a nai its.toArray
    have e1 : i = its.toArray.size := by rw [List.size_toArray, ← hl]; exact hx.symm
    exact wpAny_pyNext_enum_endD D he (show s.heap.IsTupleIter it a its.toArray.size ∧ s.heap.IsTuple a its.toArray from ⟨e1 ▸ hit, tp⟩) fun h' eb => ⟨rfl, I.turned (t' := s.toks) (fun b o hb q => eb b o hb q) f0 f1 f3 f4 f5⟩
  self := fun A i s Q E st h => by
    obtain ⟨⟨_, he⟩, _⟩ := st
    exact wpAny_pyIter_enum he h
def iEnT (K : PySem.W.Frag) (ta : TA) : TI := fun σ H R => ta σ H fun vs H1 => ∃ a xs, vs = [.ref a] ∧ SqT K H1 a xs ∧ R (ItEnT K a) H1
theorem pi_enT {X : Cx} {e : Expr} {ta : TA} {p pos tpos : Pos} {elts : List Expr} {kk : Nat} (hg : Gl X "enumerate") (hm : X.mg "enumerate" = none) (ha : PA X [e] ta) (hs : starEach [e] X.env = [(false, eval e X.env)]) :
    PI X (.Tuple elts kk tpos) (.Call (.Name "enumerate" p) [e] [] pos) (iEnT X.K ta) := by
  refine ⟨fun pins s σ H R I h => ?_⟩
  refine PyProof.Rows.Call_ (ld_blt I hg hm PyProof.Rows.boot_enumerate (PyProof.Rows.callWith_type1 (thn (ha.run pos pins s σ H _ I h) fun us s1 hu => ?_) hs rfl))
  obtain ⟨vs, H1, I1, r1, a, xs, rfl, hq, q⟩ := hu
  obtain ⟨u, rfl, ru⟩ := vals1 r1
  cases ru
  obtain ⟨its, rv, tp, hz⟩ := I1.tuple hq
  refine enum_call1 (show s1.heap.IsTuple a its.toArray from tp) fun h' he hit hsz hk => wpAny_pyIter_enum he ?_
  have I2 : Inv X pins σ H1 { s1 with heap := h' } := I1.kept (t' := s1.toks) hk
  refine ⟨s1.heap.objs.size + 1, [s1.heap.objs.size + 1, s1.heap.objs.size], _, _, H1, rfl, I2, turn_enT a (s1.heap.objs.size + 1) s1.heap.objs.size, ⟨⟨.none, he⟩, hit, Nat.succ_ne_self _⟩, fun b hb => ?_, q⟩
  have hle : s1.heap.objs.size ≤ b := by
    rcases List.mem_cons.mp hb with z | z
    · rw [z]; exact Nat.le_add_right _ _
    · rw [List.mem_singleton.mp z]; exact Nat.le_refl _
  exact I1.fpOk hle (I1.hok.fresh hle)
end RF

set_option Elab.async false
set_option linter.all false
set_option maxRecDepth 100000
set_option maxHeartbeats 8000000
set_option autoImplicit false
namespace RF
open PySem PySem.Spec PyProof.Rows L2

/-! ### dict comprehensions, whatever the keys, one for or two -/
theorem dset_ok {X : Cx} {pins : List (Addr × Obj)} {σ : L2.St} {H H' : Hp} {s : Shared} {E : Value → Shared → Prop} {D : Addr} {y v : V} {u r : Value} {Q : Unit → Shared → Prop} (hu : X.A.units + 1 < cLine) (I : Inv X pins σ H s) (g : DPut H D y v H')
    (ry : RelV y u) (rv : RelV v r) (h : ∀ s', Inv X pins σ H' s' → Q () s') : wpAny (model X.prog X.w) X.A (dictSet D u r) Q E s := by
  rcases g with ⟨kvs, k, e, ey, l, eH⟩ | ⟨kvs, k, b, e, ey, eb, l, eH⟩
  · subst ey eH
    exact d_dictSet I e l ry rv h
  · subst ey eH
    cases (show u = Value.ref b from ry)
    obtain ⟨z, hd, xs, rel, dd⟩ := dt_of I.hok e
    have hz : xs.length ≤ sizeLine := by rw [← Paired.length rel]; exact z
    have hl : (putK kvs k v).length ≤ sizeLine := by
      have := length_putK kvs k v
      omega
    refine wpAny_dictSet_heap (hsz := hz) (show X.A.units < cLine by omega) (key_of I.hok eb) dd fun h' dd' hs => h _ ?_
    obtain ⟨q, es, ep, hq, h2, h3, h4, _, h5⟩ := dd'
    refine d_write I (by rw [e]; exact True.intro) hs ⟨q, hq⟩ ⟨hl, hd, _, (rel.put k eb rv).keeps fun c ys ec => ?_, q, es, ep, hq, h2, h3, h4, h5⟩
    rw [upd_ne (ne_of ec e (fun z => nomatch z))]
    exact ec
/-- the new dict: of either kind of keys -/
def emptyD (b : Bool) : HO := if b then .dK [] else .dT []
theorem emptyD_ok {P : Program} {w : World} {H : Hp} (b : Bool) (h : Heap) (hb : sysModules < h.objs.size) : ObjOk P w H (h.push { cls := .type "dict", data := .dict #[] }) h.objs.size (emptyD b) := by
  cases b
  · exact dt_empty h hb
  · exact dk_empty h hb
def tDcU (wi : TI) (g : TG) (tt : TT) (tk tv : TE) (vs : List Nat) : TE := fun σ H Q => ∃ kind : Bool, wi σ H fun J H1 => ∀ D, H1 D = none → ∃ W : Nat → Nat → Hp → Prop, (∃ m, W 0 m (upd H1 D (emptyD kind))) ∧ ∀ i m H, W i m H →
  (J.stop i H ∧ Q (.ref D) H) ∨ (J.go i H ∧ ∃ Nx : Hp → Prop, (∀ H', Nx H' → ∃ m', m' < m ∧ W (i + 1) m' H') ∧ ∀ x H', J.yld i H x H' → g x (wipe σ vs) H' fun σ2 H2 => wipe σ2 vs = wipe σ vs ∧ tt σ2 H2 fun b H3 =>
    if b = true then tk σ2 H3 fun y H4 => tv σ2 H4 fun z H5 => ∃ H6, DPut H5 D y z H6 ∧ Nx H6 else Nx H3)
def tDc2 (wi : TI) (g : TG) (wi1 : TI) (g1 : TG) (tk tv : TE) (vs vs1 : List Nat) : TE := fun σ H Q => ∃ kind : Bool, wi σ H fun J H1 => ∀ D, H1 D = none → ∃ W : Nat → Nat → Hp → Prop, (∃ m, W 0 m (upd H1 D (emptyD kind))) ∧ ∀ i m H, W i m H →
  (J.stop i H ∧ Q (.ref D) H) ∨ (J.go i H ∧ ∃ Nx : Hp → Prop, (∀ H', Nx H' → ∃ m', m' < m ∧ W (i + 1) m' H') ∧ ∀ x H', J.yld i H x H' → g x (wipe σ vs) H' fun σ2 H2 => wipe σ2 vs = wipe σ vs ∧
    wi1 σ2 H2 fun J1 H4 => ∃ W1 : Nat → Nat → Hp → Prop, (∃ m, W1 0 m H4) ∧ ∀ j k H, W1 j k H →
      (J1.stop j H ∧ Nx H) ∨ (J1.go j H ∧ ∃ Nx1 : Hp → Prop, (∀ H', Nx1 H' → ∃ k', k' < k ∧ W1 (j + 1) k' H') ∧ ∀ x H', J1.yld j H x H' → g1 x (wipe σ2 vs1) H' fun σ3 H5 => wipe σ3 vs1 = wipe σ2 vs1 ∧
        tk σ3 H5 fun y H6 => tv σ3 H6 fun z H7 => ∃ H8, DPut H7 D y z H8 ∧ Nx1 H8))

section
variable {prog : Program} {w : World} {A : Around} {R : Result → Shared → Prop} {s : Shared} {kx vx t0 i0 t1 i1 : Expr} {scope : Scope} {pos : Pos} {it : Value} {D : Addr} {env : Env}
theorem dturn_out : compTurn (.DictComp kx vx [⟨t0, i0, [], 0⟩, ⟨t1, i1, [], 0⟩] scope pos) 0 it (.ref D) env = (do
      standAt i0.pos
      match ← pyNext it with
      | none => pure (.done .next)
      | some v =>
        letOwnedTupleGo t0 it v
        assign t0 env v
        let mut ok := true
        for c in ([] : List Expr) do
          if ok then ok ← isTrue c env (eval c env)
        if ok then
          let x ← eval i1 env
          standAt i1.pos
          let x ← foldedSetIterable i1 env x
          let _ ← runOwn (.compStart (.DictComp kx vx [⟨t0, i0, [], 0⟩, ⟨t1, i1, [], 0⟩] scope pos) 1 (← holding [x] (pyIter x)) (.ref D) env) env
        again (.compLoop (.DictComp kx vx [⟨t0, i0, [], 0⟩, ⟨t1, i1, [], 0⟩] scope pos) 0 it (.ref D) env)) := by rfl
theorem dturn_in : compTurn (.DictComp kx vx [⟨t0, i0, [], 0⟩, ⟨t1, i1, [], 0⟩] scope pos) 1 it (.ref D) env = (do
      standAt i1.pos
      match ← pyNext it with
      | none => pure (.done .next)
      | some v =>
        letOwnedTupleGo t1 it v
        assign t1 env v
        let mut ok := true
        for c in ([] : List Expr) do
          if ok then ok ← isTrue c env (eval c env)
        if ok then
          (do
            let kv ← eval kx env
            let vv ← holding [kv] (eval vx env)
            standAt { kx.pos with endLine := vx.pos.endLine, endCol := vx.pos.endCol }
            holding [kv, vv] (dictSet D kv vv))
        again (.compLoop (.DictComp kx vx [⟨t0, i0, [], 0⟩, ⟨t1, i1, [], 0⟩] scope pos) 1 it (.ref D) env)) := by rfl
theorem dloop_out (hs : ∀ x, foldedSetIterable i1 env x = pure x) (I : Nat → Shared → Prop)
    (turn : ∀ n s, I n s → wpAny (model prog w) A (pyNext it) (fun r s1 => match r with
      | none => R (.ok .next) s1
      | some v => wpAny (model prog w) A (letOwnedTupleGo t0 it v) (fun _ s2 => wpAny (model prog w) A (assign t0 env v) (fun _ s3 =>
          wpAny (model prog w) A (eval i1 env) (fun x s4 => wpAny (model prog w) A (pyIter x) (fun it1 s5 =>
              codeAny (model prog w) A (.compStart (.DictComp kx vx [⟨t0, i0, [], 0⟩, ⟨t1, i1, [], 0⟩] scope pos) 1 it1 (.ref D) env) (fun r s' => match r with
                | .ok _ => ∃ m, m < n ∧ I m s'
                | .error _ => False) s5) (fun _ _ => False) s4) (fun _ _ => False) s3) (fun _ _ => False) s2) (fun _ _ => False) s1) (fun _ _ => False) s)
    (n : Nat) (h : I n s) : codeAny (model prog w) A (.compLoop (.DictComp kx vx [⟨t0, i0, [], 0⟩, ⟨t1, i1, [], 0⟩] scope pos) 0 it (.ref D) env) R s := by
  refine codeAny_loop rfl I (fun n s hI => ?_) n h
  show wpAny _ A ((compTurn (.DictComp kx vx [⟨t0, i0, [], 0⟩, ⟨t1, i1, [], 0⟩] scope pos) 0 it (.ref D) env).onRaise (fun x => do noteFrame x env; theTreesLotGoes x)) _ _ s
  refine wpAny_noted ?_
  rw [dturn_out]
  refine wpAny_bind (wpAny_standAt (wpAny_bind (thnF (turn n s hI) fun r s1 h1 => ?_)))
  cases r with
  | none => exact wpAny_pure h1
  | some v =>
    refine wpAny_bind (thnF h1 fun _ s2 h2 => wpAny_bind (thnF h2 fun _ s3 h3 => wpAny_bind (wpAny_tests_nil ?_)))
    refine wpAny_bind (thnF h3 fun x s4 h4 => ?_)
    refine wpAny_bind (wpAny_standAt (wpAny_bind (wpAny_of_eq (hs x) (wpAny_bind (wpAny_holding (thnF h4 fun it1 s5 h5 => ?_))))))
    refine wpAny_bind (wpAny_runOwn ?_)
    rw [Around.mark_none]
    refine codeAny_mono h5 fun r s' hr => ?_
    cases r with
    | ok f => first | exact wpAny_pure ⟨rfl, hr⟩ | exact wpAny_bind (wpAny_pure (wpAny_pure ⟨rfl, hr⟩))
    | error e => exact hr.elim
theorem dloop_in (I : Nat → Shared → Prop)
    (turn : ∀ n s, I n s → wpAny (model prog w) A (pyNext it) (fun r s1 => match r with
      | none => R (.ok .next) s1
      | some v => wpAny (model prog w) A (letOwnedTupleGo t1 it v) (fun _ s2 => wpAny (model prog w) A (assign t1 env v) (fun _ s3 =>
          wpAny (model prog w) A (eval kx env) (fun kv s4 => wpAny (model prog w) A (eval vx env) (fun vv s5 =>
              wpAny (model prog w) A (dictSet D kv vv) (fun _ s6 => ∃ m, m < n ∧ I m s6) (fun _ _ => False) s5) (fun _ _ => False) s4) (fun _ _ => False) s3) (fun _ _ => False) s2) (fun _ _ => False) s1) (fun _ _ => False) s)
    (n : Nat) (h : I n s) : codeAny (model prog w) A (.compLoop (.DictComp kx vx [⟨t0, i0, [], 0⟩, ⟨t1, i1, [], 0⟩] scope pos) 1 it (.ref D) env) R s := by
  refine codeAny_loop rfl I (fun n s hI => ?_) n h
  show wpAny _ A ((compTurn (.DictComp kx vx [⟨t0, i0, [], 0⟩, ⟨t1, i1, [], 0⟩] scope pos) 1 it (.ref D) env).onRaise (fun x => do noteFrame x env; theTreesLotGoes x)) _ _ s
  refine wpAny_noted ?_
  rw [dturn_in]
  refine wpAny_bind (wpAny_standAt (wpAny_bind (thnF (turn n s hI) fun r s1 h1 => ?_)))
  cases r with
  | none => exact wpAny_pure h1
  | some v =>
    refine wpAny_bind (thnF h1 fun _ s2 h2 => wpAny_bind (thnF h2 fun _ s3 h3 => wpAny_bind (wpAny_tests_nil ?_)))
    exact wpAny_bind (wpAny_bind (thnF h3 fun kv s4 h4 => wpAny_bind (wpAny_holding (thnF h4 fun vv s5 h5 => wpAny_bind (wpAny_standAt (wpAny_holding (thnF h5 fun _ s6 h6 => wpAny_pure ⟨rfl, h6⟩)))))))
theorem dstart_in (h0 : codeAny (model prog w) A (.compLoop (.DictComp kx vx [⟨t0, i0, [], 0⟩, ⟨t1, i1, [], 0⟩] scope pos) 1 it (.ref D) env) R s)
    (h : wpAny (model prog w) A (pyIter it) (fun it' s' => codeAny (model prog w) A (.compLoop (.DictComp kx vx [⟨t0, i0, [], 0⟩, ⟨t1, i1, [], 0⟩] scope pos) 1 it' (.ref D) env) R s')
      (notedBy (model prog w) A env fun x s' => R (.error x) s') s) :
    codeAny (model prog w) A (.compStart (.DictComp kx vx [⟨t0, i0, [], 0⟩, ⟨t1, i1, [], 0⟩] scope pos) 1 it (.ref D) env) R s := by
  refine codeAny_of_tree ?_
  show wpAny _ _ ((compStart (.DictComp kx vx [⟨t0, i0, [], 0⟩, ⟨t1, i1, [], 0⟩] scope pos) 1 it (.ref D) env).onRaise (fun x => do noteFrame x env; standAt theWindowsPlace)) _ _ s
  refine wpAny_notedAt ?_
  unfold compStart
  show wpAny _ _ (ask >>= _) _ _ s
  refine wpAny_bind (wpAny_askSetting (wpAny_ite ?_))
  split
  · first
      | exact wpAny_bind (wpAny_pure (wpAny_pure (And.intro rfl h0)))
      | exact wpAny_pure (And.intro rfl h0)
  · first
      | exact wpAny_bind (wpAny_rule (wpAny_bind (wpAny_standAt (wpAny_bind (wpAny_mono h (fun it' s' h' => wpAny_pure (And.intro rfl h')) fun _ _ x => x)))))
      | (refine wpAny_bind (wpAny_rule ?_); show wpAny _ _ (standAt i1.pos >>= _) _ _ s; exact wpAny_bind (wpAny_standAt (wpAny_bind (wpAny_mono h (fun it' s' h' => wpAny_pure (And.intro rfl h')) fun _ _ x => x))))
end
end RF

set_option Elab.async false
set_option linter.all false
set_option maxRecDepth 100000
set_option maxHeartbeats 8000000
set_option autoImplicit false
namespace RF
open PySem PySem.Spec PyProof.Rows L2
section
variable {X : Cx} {kx vx tg iter : Expr} {ifs : List Expr} {rest : List Comprehension} {scope : Scope} {own : List (Str × Nat)} {pos : Pos} {wi : TI}
/-- a dict comprehension's block is set up; what is left is its first loop -/
theorem dopen {pins : List (Addr × Obj)} {s : Shared} {σ : L2.St} {H : Hp} {Q : VK} {T0 : It → Addr → Hp → Prop} (kind : Bool) (hc : X.calm = true) (hN : X.N.Nodup) (I : Inv X pins σ H s) (hi : PI X tg iter wi) (ok : BlkOk X.N X.env.scope scope own)
    (hs : ∀ x, foldedSetIterable iter X.env x = pure x) (h : wi σ H fun J H1 => ∀ D, H1 D = none → T0 J D H1)
    (body : ∀ (J : It) (it D C : Addr) (fp : List Addr) (tn : Nat → Heap → Prop) (cl : List (Str × Addr)) (H2 : Hp) (s3 s4 : Shared) (R : Result → Shared → Prop), T0 J D H2 → Turn X.prog X.w X.K tg J fp it tn →
      Inv (X.blk s3 (upd H2 D (emptyD kind)) scope (compEnvC scope cl C X.env) fp) [] (wipe σ (own.map (·.2))) (upd H2 D (emptyD kind)) s4 → tn 0 s4.heap → (∀ b ∈ fp, (upd H2 D (emptyD kind)) b = none) →
      (∀ (s' : Shared) (H' : Hp), Inv (X.blk s3 (upd H2 D (emptyD kind)) scope (compEnvC scope cl C X.env) fp) [] (wipe σ (own.map (·.2))) H' s' → Q (.ref D) H' → R (.ok .next) s') →
      codeAny (model X.prog X.w) X.A (.compLoop (.DictComp kx vx (⟨tg, iter, ifs, 0⟩ :: rest) scope pos) 0 (.ref it) (.ref D) (compEnvC scope cl C X.env)) R s4) :
    wpAny (model X.prog X.w) X.A (eval (.DictComp kx vx (⟨tg, iter, ifs, 0⟩ :: rest) scope pos) X.env) (EP X pins σ Q) X.xe s := by
  rw [arm_eval_DictComp]
  have hfree : ∀ y ∈ scope.names, y.2 = .free → ∃ c, X.env.cells.lookup y.1 = some c := fun y hy e => (ok.free y hy e).elim (fun k => I.ok.has _ (.inl k)) fun k => I.ok.has _ (.inr k)
  refine wpAny_comprehension_free (use := none) rfl hs (closure_ok hfree) ok.kind (fun y hy e => by rw [ok.uniq y hy, e]) (thn (hi.run pins s σ H _ I h) fun xv s1 hx => thn hx fun itv s2 h2 => ?_)
  obtain ⟨it, fp, tn, J, H2, e, I2, T, st2, f2, q⟩ := h2
  subst e
  refine wpAny_newObj_type (newEnv_comp ?_)
  generalize hD : s2.heap.objs.size = D
  have hDn : H2 D = none := I2.hok.fresh (Nat.le_of_eq hD)
  have t0 := q D hDn
  generalize hs3 : ({ s2 with heap := s2.heap.push { cls := .type "dict", data := .dict #[] } } : Shared) = s3
  have h3 : s3.heap = s2.heap.push { cls := .type "dict", data := .dict #[] } := by rw [← hs3]
  have I3 : Inv X pins σ (upd H2 D (emptyD kind)) s3 := by
    rw [← hs3]
    refine I2.laid (t' := s2.toks) (fun b o e => Heap.get?_push_of_some _ e) (Nat.le_of_eq hD) ?_
    rw [← hD]
    exact emptyD_ok kind s2.heap I2.big
  have f3 : ∀ b ∈ fp, FpOk X pins (upd H2 D (emptyD kind)) b ∧ b < s3.heap.objs.size := fun b hb => by
    obtain ⟨o, e, _⟩ := T.obj _ _ st2 b hb
    have hlt := Heap.lt_size e
    refine ⟨⟨?_, (f2 b hb).2⟩, by rw [h3, Heap.size_push]; exact Nat.lt_succ_of_lt hlt⟩
    rw [upd_ne (by rw [← hD]; exact Nat.ne_of_lt hlt)]
    exact (f2 b hb).1
  have st3 : tn 0 s3.heap := T.keep _ _ _ st2 fun b _ o e => by rw [h3]; exact Heap.get?_push_of_some _ e
  have I4 := block_start I3 ok hN f3
  show codeAny _ _ (.compStart (.DictComp kx vx (⟨tg, iter, ifs, 0⟩ :: rest) scope pos) 0 (.ref it) (.ref D) (compEnvC scope (cellsFrom (s3.heap.objs.size + 1) scope.names (cloFrom X.env.cells scope.names [])) s3.heap.objs.size X.env)) (compPost (model X.prog X.w) X.A X.xe none _ (.ref D) s3.heap.objs.size) { s3 with heap := pushCells (s3.heap.push { cls := .type "dict", data := .dict #[] }) scope.names }
  have nfp : ∀ b ∈ fp, (upd H2 D (emptyD kind)) b = none := fun b hb => (f3 b hb).1.1
  generalize hs4 : ({ s3 with heap := pushCells (s3.heap.push { cls := .type "dict", data := .dict #[] }) scope.names } : Shared) = s4 at I4 ⊢
  have st4 : tn 0 s4.heap := T.keep _ _ _ st3 fun b _ o e => by rw [← hs4]; exact pushCells_keeps _ _ _ _ (Heap.get?_push_of_some _ e)
  have loop := body J it D s3.heap.objs.size fp tn _ H2 s3 s4 _ t0 T I4 st4 nfp fun s6 H5 I6 qq => by
    show compPost (model X.prog X.w) X.A X.xe none (EP X pins σ Q) (.ref D) s3.heap.objs.size (.ok .next) s6
    have I7 : Inv X pins σ H5 s6 := I3.call' (ch := fp) I6.os I6.base I6.hok I6.bare fun b hb => ⟨(f3 b hb).1.2.2.2.1, (f3 b hb).1.2.1, (f3 b hb).1.2.2.2.2.1, (f3 b hb).1.2.2.2.2.2⟩
    have nC : H5 s3.heap.objs.size = none := I6.free
    obtain ⟨m, hn, _⟩ := I6.loc
    obtain ⟨g0, g1, g2, g3, g4, g5⟩ := I3.fpOk (Nat.le_refl _) nC
    exact ⟨m, hn, fun h'' sb => ⟨.ref D, H5, I7.turned (t' := s6.toks) (fun b o hb e => (sb.2 b hb).trans e) g0 g1 g3 g4 g5, rfl, qq⟩⟩
  exact codeAny_compStart_dict loop (T.self X.A 0 _ _ _ st4 loop)
/-- the iterator's own objects, seen from the block -/
theorem blk_fp {s3 : Shared} {H3 H' : Hp} {ce : Env} {fp : List Addr} {σ' : L2.St} {s' : Shared} (I' : Inv (X.blk s3 H3 scope ce fp) [] σ' H' s') (hn : ∀ b ∈ fp, H' b = none) : ∀ b ∈ fp, FpOk (X.blk s3 H3 scope ce fp) [] H' b := fun b hb =>
  ⟨hn b hb, (I'.ok.exf b hb).1, I'.ok.exfs b hb, .inl hb, fun x c e => (I'.ok.exf b hb).2 x c e, fun p hp => absurd (show p ∈ ([] : List (Addr × Obj)) ++ [] from hp) (by simp)⟩
theorem unpin {Y : Cx} {pins pl : List (Addr × Obj)} {fp : List Addr} {h7 : Heap} {σ' : L2.St} {H' : Hp} {s' : Shared} (I' : Inv Y (pins ++ pinsAt fp h7) σ' H' s') : ∀ b ∈ fp, ∀ o, h7.get? b = some o → s'.heap.get? b = some o ∧ H' b = none := fun b hb o e =>
  let z := I'.pin (b, o) (List.mem_append_right _ (List.mem_append_right _ (mem_pinsAt hb e)))
  ⟨z.1, z.2.1⟩
theorem pe_dcU {g : TG} {tt : TT} {tk tv : TE} {k : Nat} (hr : Room k X.A) (hc : X.calm = true) (hN : X.N.Nodup) (hi : PI X tg iter wi) (ok : BlkOk X.N X.env.scope scope own)
    (hg : ∀ (s : Shared) (H : Hp) (C : Addr) (cl : List (Str × Addr)) (fp : List Addr), PG (X.blk s H scope (compEnvC scope cl C X.env) fp) tg g) (ht : ∀ (s : Shared) (H : Hp) (C : Addr) (cl : List (Str × Addr)) (fp : List Addr), PTs (X.blk s H scope (compEnvC scope cl C X.env) fp) ifs tt)
    (hk : ∀ (s : Shared) (H : Hp) (C : Addr) (cl : List (Str × Addr)) (fp : List Addr), PE (X.blk s H scope (compEnvC scope cl C X.env) fp) kx tk) (he : ∀ (s : Shared) (H : Hp) (C : Addr) (cl : List (Str × Addr)) (fp : List Addr), PE (X.blk s H scope (compEnvC scope cl C X.env) fp) vx tv)
    (hs : ∀ x, foldedSetIterable iter X.env x = pure x := by intro _; rfl) : PE X (.DictComp kx vx [⟨tg, iter, ifs, 0⟩] scope pos) (tDcU wi g tt tk tv (own.map (·.2))) := by
  refine ⟨fun pins s σ H Q I hh => ?_⟩
  obtain ⟨kind, h⟩ := hh
  refine dopen kind hc hN I hi ok hs h fun J it D C fp tn cl H2 s3 s4 R t0 T I4 st4 nfp fin0 => ?_
  obtain ⟨W, ⟨m0, w0⟩, turn⟩ := t0
  have pg := hg s3 (upd H2 D (emptyD kind)) C cl fp
  have pt := ht s3 (upd H2 D (emptyD kind)) C cl fp
  have pk := hk s3 (upd H2 D (emptyD kind)) C cl fp
  have pe := he s3 (upd H2 D (emptyD kind)) C cl fp
  refine compLoop_anyD (fun n s' => ∃ i H', Inv (X.blk s3 (upd H2 D (emptyD kind)) scope (compEnvC scope cl C X.env) fp) [] (wipe σ (own.map (·.2))) H' s' ∧ tn i s'.heap ∧ (∀ b ∈ fp, H' b = none) ∧ W i n H') ?_ m0 ⟨0, _, I4, st4, nfp, w0⟩
  rintro n s5 ⟨i, H5, I5, st5, n5, w5⟩
  rcases turn i n H5 w5 with ⟨stop, qq⟩ | ⟨go, Nx, hNx, step⟩
  · refine thnF (T.done (X.blk s3 (upd H2 D (emptyD kind)) scope (compEnvC scope cl C X.env) fp) rfl rfl rfl hc i [] s5 _ H5 (fun _ _ => False) I5 (blk_fp I5 n5) st5 stop) fun r s6 hr6 => ?_
    obtain ⟨hr6, I6⟩ := hr6
    subst hr6
    exact fin0 s6 H5 I6 qq
  · refine thnF (T.item (X.blk s3 (upd H2 D (emptyD kind)) scope (compEnvC scope cl C X.env) fp) rfl rfl rfl hc i [] s5 _ H5 (fun _ _ => False) I5 (blk_fp I5 n5) st5 go) fun r s6 hr6 => ?_
    obtain ⟨u, hr6, h6⟩ := hr6
    subst hr6
    refine thnF h6 fun _ s7 h7 => ?_
    obtain ⟨x, H7, I7, r7, y7, st7, n7⟩ := h7
    have I7' := I7.pinned (blk_fp I7 n7) (T.obj _ _ st7)
    refine thnF (pg.run _ s7 _ H7 x u _ I7' r7 (step x H7 y7)) fun _ s8 h8 => ?_
    obtain ⟨σ8, H8, I8, hw8, q8⟩ := h8
    refine thnF (pt.run _ s8 σ8 H8 _ I8 q8) fun b s9 h9 => ?_
    obtain ⟨H9, I9, q9⟩ := h9
    have fin : ∀ {s' : Shared} {H' : Hp}, Inv (X.blk s3 (upd H2 D (emptyD kind)) scope (compEnvC scope cl C X.env) fp) ([] ++ pinsAt fp s7.heap) σ8 H' s' → Nx H' → ∃ m, m < n ∧ ∃ i H', Inv (X.blk s3 (upd H2 D (emptyD kind)) scope (compEnvC scope cl C X.env) fp) [] (wipe σ (own.map (·.2))) H' s' ∧ tn i s'.heap ∧ (∀ b ∈ fp, H' b = none) ∧ W i m H' := fun {s' H'} I' nx => by
      obtain ⟨m', hm, w'⟩ := hNx H' nx
      have up := unpin (pl := []) I'
      refine ⟨m', hm, i + 1, H', (I'.unpinned (pins := [])).weak (by rw [← hw8, wipe_length]) (fun j v e => by rw [← hw8] at e; exact (wipe_some e).1), T.keep _ _ _ st7 fun b hb o e => (up b hb o e).1, fun b hb => ?_, w'⟩
      obtain ⟨o, e, _⟩ := T.obj _ _ st7 b hb
      exact (up b hb o e).2
    cases b with
    | false =>
      simp only [Bool.false_eq_true, if_false] at q9 ⊢
      exact fin I9 q9
    | true =>
      simp only [if_true] at q9 ⊢
      refine thnF (pk.run _ s9 σ8 H9 _ I9 q9) fun z s10 h10 => ?_
      obtain ⟨yk, H10, I10, r10, q10⟩ := h10
      refine thnF (pe.run _ s10 σ8 H10 _ I10 q10) fun z2 s11 h11 => ?_
      obtain ⟨yv, H11, I11, r11, H12, put, nx⟩ := h11
      exact dset_ok (X := X.blk s3 (upd H2 D (emptyD kind)) scope (compEnvC scope cl C X.env) fp) (hu_of hr) I11 put r10 r11 fun s12 I12 => fin I12 nx
theorem pe_dc2 {g g1 : TG} {tg1 iter1 : Expr} {wi1 : TI} {tk tv : TE} {vs1 : List Nat} {k : Nat} (hr : Room k X.A) (hc : X.calm = true) (hN : X.N.Nodup) (hi : PI X tg iter wi) (ok : BlkOk X.N X.env.scope scope own) (hv : ∀ i ∈ vs1, i ∈ own.map (·.2))
    (hg : ∀ (s : Shared) (H : Hp) (C : Addr) (cl : List (Str × Addr)) (fp : List Addr), PG (X.blk s H scope (compEnvC scope cl C X.env) fp) tg g)
    (hi1 : ∀ (s : Shared) (H : Hp) (C : Addr) (cl : List (Str × Addr)) (fp : List Addr), PI (X.blk s H scope (compEnvC scope cl C X.env) fp) tg1 iter1 wi1) (hg1 : ∀ (s : Shared) (H : Hp) (C : Addr) (cl : List (Str × Addr)) (fp : List Addr), PG (X.blk s H scope (compEnvC scope cl C X.env) fp) tg1 g1)
    (hk : ∀ (s : Shared) (H : Hp) (C : Addr) (cl : List (Str × Addr)) (fp : List Addr), PE (X.blk s H scope (compEnvC scope cl C X.env) fp) kx tk) (he : ∀ (s : Shared) (H : Hp) (C : Addr) (cl : List (Str × Addr)) (fp : List Addr), PE (X.blk s H scope (compEnvC scope cl C X.env) fp) vx tv)
    (hs : ∀ x, foldedSetIterable iter X.env x = pure x := by intro _; rfl) (hs1 : ∀ env x, foldedSetIterable iter1 env x = pure x := by intro _ _; rfl) :
    PE X (.DictComp kx vx [⟨tg, iter, [], 0⟩, ⟨tg1, iter1, [], 0⟩] scope pos) (tDc2 wi g wi1 g1 tk tv (own.map (·.2)) vs1) := by
  refine ⟨fun pins s σ H Q I hh => ?_⟩
  obtain ⟨kind, h⟩ := hh
  refine dopen kind hc hN I hi ok hs h fun J it D C fp tn cl H2 s3 s4 R t0 T I4 st4 nfp fin0 => ?_
  obtain ⟨W, ⟨m0, w0⟩, turn⟩ := t0
  have pg := hg s3 (upd H2 D (emptyD kind)) C cl fp
  have pi1 := hi1 s3 (upd H2 D (emptyD kind)) C cl fp
  have pg1 := hg1 s3 (upd H2 D (emptyD kind)) C cl fp
  have pk := hk s3 (upd H2 D (emptyD kind)) C cl fp
  have pe := he s3 (upd H2 D (emptyD kind)) C cl fp
  refine dloop_out (hs1 _) (fun n s' => ∃ i H', Inv (X.blk s3 (upd H2 D (emptyD kind)) scope (compEnvC scope cl C X.env) fp) [] (wipe σ (own.map (·.2))) H' s' ∧ tn i s'.heap ∧ (∀ b ∈ fp, H' b = none) ∧ W i n H') ?_ m0 ⟨0, _, I4, st4, nfp, w0⟩
  rintro n s5 ⟨i, H5, I5, st5, n5, w5⟩
  rcases turn i n H5 w5 with ⟨stop, qq⟩ | ⟨go, Nx, hNx, step⟩
  · refine thnF (T.done (X.blk s3 (upd H2 D (emptyD kind)) scope (compEnvC scope cl C X.env) fp) rfl rfl rfl hc i [] s5 _ H5 (fun _ _ => False) I5 (blk_fp I5 n5) st5 stop) fun r s6 hr6 => ?_
    obtain ⟨hr6, I6⟩ := hr6
    subst hr6
    exact fin0 s6 H5 I6 qq
  · refine thnF (T.item (X.blk s3 (upd H2 D (emptyD kind)) scope (compEnvC scope cl C X.env) fp) rfl rfl rfl hc i [] s5 _ H5 (fun _ _ => False) I5 (blk_fp I5 n5) st5 go) fun r s6 hr6 => ?_
    obtain ⟨u, hr6, h6⟩ := hr6
    subst hr6
    refine thnF h6 fun _ s7 h7 => ?_
    obtain ⟨x, H7, I7, r7, y7, st7, n7⟩ := h7
    have I7' := I7.pinned (blk_fp I7 n7) (T.obj _ _ st7)
    refine thnF (pg.run _ s7 _ H7 x u _ I7' r7 (step x H7 y7)) fun _ s8 h8 => ?_
    obtain ⟨σ8, H8, I8, hw8, q8⟩ := h8
    have hl8 : (wipe σ (own.map (·.2))).length = σ8.length := by rw [← hw8, wipe_length]
    have hk9 : ∀ (j : Nat) (v : V), (wipe σ (own.map (·.2)))[j]? = some (some v) → (wipe σ8 vs1)[j]? = some (some v) := fun j v e => by
      rw [← hw8] at e
      obtain ⟨e1, e2⟩ := wipe_some e
      rw [wipe_out fun z => e2 (hv j z)]
      exact e1
    have fin : ∀ {s' : Shared} {H' : Hp}, Inv (X.blk s3 (upd H2 D (emptyD kind)) scope (compEnvC scope cl C X.env) fp) ([] ++ pinsAt fp s7.heap) (wipe σ8 vs1) H' s' → Nx H' →
        ∃ m, m < n ∧ ∃ i H', Inv (X.blk s3 (upd H2 D (emptyD kind)) scope (compEnvC scope cl C X.env) fp) [] (wipe σ (own.map (·.2))) H' s' ∧ tn i s'.heap ∧ (∀ b ∈ fp, H' b = none) ∧ W i m H' := fun {s' H'} I' nx => by
      obtain ⟨m', hm, w'⟩ := hNx H' nx
      have up := unpin (pl := []) I'
      refine ⟨m', hm, i + 1, H', (I'.unpinned (pins := [])).weak (hl8.trans (wipe_length σ8 vs1).symm) hk9, T.keep _ _ _ st7 fun b hb o e => (up b hb o e).1, fun b hb => ?_, w'⟩
      obtain ⟨o, e, _⟩ := T.obj _ _ st7 b hb
      exact (up b hb o e).2
    refine thnF (pi1.run _ s8 σ8 H8 _ I8 q8) fun xv s10 hx => thnF hx fun itv s11 h11 => ?_
    obtain ⟨it1, fp1, tn1, J1, H11, e1, I11, T1, st11, f11, W1, ⟨m1, w1⟩, turn1⟩ := h11
    subst e1
    have stat1 : ∀ {H' : Hp}, (∀ b ∈ fp1, H' b = none) → ∀ b ∈ fp1, FpOk (X.blk s3 (upd H2 D (emptyD kind)) scope (compEnvC scope cl C X.env) fp) ([] ++ pinsAt fp s7.heap) H' b := fun hn b hb => ⟨hn b hb, (f11 b hb).2⟩
    have loop1 : codeAny (model X.prog X.w) X.A (.compLoop (.DictComp kx vx [⟨tg, iter, [], 0⟩, ⟨tg1, iter1, [], 0⟩] scope pos) 1 (.ref it1) (.ref D) (compEnvC scope cl C X.env))
        (fun r s' => match r with
          | .ok _ => ∃ m, m < n ∧ ∃ i H', Inv (X.blk s3 (upd H2 D (emptyD kind)) scope (compEnvC scope cl C X.env) fp) [] (wipe σ (own.map (·.2))) H' s' ∧ tn i s'.heap ∧ (∀ b ∈ fp, H' b = none) ∧ W i m H'
          | .error _ => False) s11 := by
      refine dloop_in (fun k s' => ∃ j H', Inv (X.blk s3 (upd H2 D (emptyD kind)) scope (compEnvC scope cl C X.env) fp) ([] ++ pinsAt fp s7.heap) (wipe σ8 vs1) H' s' ∧ tn1 j s'.heap ∧ (∀ b ∈ fp1, H' b = none) ∧ W1 j k H') ?_ m1 ⟨0, H11, I11.weak (wipe_length _ _) (fun j v e => (wipe_some e).1), st11, fun b hb => (f11 b hb).1, w1⟩
      rintro k s12 ⟨j, H12, I12, st12, n12, w12⟩
      rcases turn1 j k H12 w12 with ⟨stop1, nx1⟩ | ⟨go1, Nx1, hNx1, step1⟩
      · refine thnF (T1.done (X.blk s3 (upd H2 D (emptyD kind)) scope (compEnvC scope cl C X.env) fp) rfl rfl rfl hc j _ s12 (wipe σ8 vs1) H12 (fun _ _ => False) I12 (stat1 n12) st12 stop1) fun r s13 h13 => ?_
        obtain ⟨hr13, I13⟩ := h13
        subst hr13
        exact fin I13 nx1
      · refine thnF (T1.item (X.blk s3 (upd H2 D (emptyD kind)) scope (compEnvC scope cl C X.env) fp) rfl rfl rfl hc j _ s12 (wipe σ8 vs1) H12 (fun _ _ => False) I12 (stat1 n12) st12 go1) fun r s13 h13 => ?_
        obtain ⟨u1, hr13, h13⟩ := h13
        subst hr13
        refine thnF h13 fun _ s14 h14 => ?_
        obtain ⟨x1, H14, I14, r14, y14, st14, n14⟩ := h14
        have I14' := I14.pinned (stat1 n14) (T1.obj _ _ st14)
        refine thnF (pg1.run _ s14 (wipe σ8 vs1) H14 x1 u1 _ I14' r14 (step1 x1 H14 y14)) fun _ s15 h15 => ?_
        obtain ⟨σ15, H15, I15, hw15, q15⟩ := h15
        refine thnF (pk.run _ s15 σ15 H15 _ I15 q15) fun z s16 h16 => ?_
        obtain ⟨yk, H16, I16, r16, q16⟩ := h16
        refine thnF (pe.run _ s16 σ15 H16 _ I16 q16) fun z2 s17 h17 => ?_
        obtain ⟨yv, H17, I17, r17, H18, put, nx⟩ := h17
        refine dset_ok (X := X.blk s3 (upd H2 D (emptyD kind)) scope (compEnvC scope cl C X.env) fp) (hu_of hr) I17 put r16 r17 fun s18 I18 => ?_
        obtain ⟨m', hm, w'⟩ := hNx1 _ nx
        have up := unpin (pl := []) I18
        refine ⟨m', hm, j + 1, _, I18.unpinned.weak (by rw [← hw15, wipe_length]) (fun j v e => by rw [← hw15] at e; exact (wipe_some e).1), T1.keep _ _ _ st14 fun b hb o e => (up b hb o e).1, fun b hb => ?_, w'⟩
        obtain ⟨o, e, _⟩ := T1.obj _ _ st14 b hb
        exact (up b hb o e).2
    exact dstart_in loop1 (T1.self X.A 0 _ _ _ st11 loop1)
end
end RF

set_option Elab.async false
set_option linter.all false
set_option maxRecDepth 100000
set_option maxHeartbeats 4000000
set_option autoImplicit false
namespace RF
open PySem L2

/-! ### one reading for a construct, whatever the kinds -/
def eOr (t u : TE) : TE := fun σ H Q => t σ H Q ∨ u σ H Q
def rOr (r q : R2) : R2 := fun x y H Q => r x y H Q ∨ q x y H Q
def cOr (r q : List V → Hp → VK → Prop) : List V → Hp → VK → Prop := fun xs H Q => r xs H Q ∨ q xs H Q
def iOr (r q : TI) : TI := fun σ H R => r σ H R ∨ q σ H R
def slOr (r q : V → Option Int → Option Int → Hp → VK → Prop) : V → Option Int → Option Int → Hp → VK → Prop := fun x l u H Q => r x l u H Q ∨ q x l u H Q
abbrev rAddI : R2 := rI0 fun i j => .int (i + j)
abbrev rSubI : R2 := rI0 fun i j => .int (i - j)
abbrev rMulI : R2 := rI CMulW fun i j => .int (i * j)
abbrev rDivI : R2 := rI CDivW fun i j => .int (i / j)
abbrev rModI : R2 := rI (fun _ j => 0 < j) fun i j => .int (i % j)
abbrev rPowI : R2 := rI CPow fun i j => .int (i ^ j.toNat)
abbrev rLtI : R2 := rI0 fun i j => .bl (decide (i < j))
abbrev rLeI : R2 := rI0 fun i j => .bl (decide (i ≤ j))
abbrev rGtI : R2 := rI0 fun i j => .bl (decide (j < i))
abbrev rGeI : R2 := rI0 fun i j => .bl (decide (j ≤ i))
def rAddS : R2 := fun x y H Q => ∃ i j, x = .str i ∧ y = .str j ∧ i.length + j.length ≤ sizeLine ∧ Q (.str (i ++ j)) H
def rLtS : R2 := fun x y H Q => ∃ i j, x = .str i ∧ y = .str j ∧ Q (.bl (decide (i.cps.toList < j.cps.toList))) H
def rLtU (_ : PySem.W.Frag) : R2 := rOr rLtI rLtS
def rIsN : R2 := fun x y H Q => y = .non ∧ Q (.bl (decide (x = .non))) H
def rNotN : R2 := fun x y H Q => y = .non ∧ Q (.bl (!decide (x = .non))) H
def rAddU (K : PySem.W.Frag) : R2 := rOr rAddI (rOr (rCatA K) (rOr (rCatF K) rAddS))
def tTupU (t : TA) : TE := eOr (tTup t) (tTupF t)
def rEqU (K : PySem.W.Frag) : R2 := rOr rEq (rEqD K)
def rNeU (K : PySem.W.Frag) : R2 := rOr rNe (rNeD K)
def rIxU (K : PySem.W.Frag) (ta tb : TE) : TE := eOr (tOp (rIxT K) ta tb) (eOr (tOp (rIxL K) ta tb) (tDGet ta tb))
def rInU (K : PySem.W.Frag) (ta tb : TE) : TE := eOr (tOp (rIn K false) ta tb) (tDIn ta tb)
def rNotInU (K : PySem.W.Frag) (ta tb : TE) : TE := eOr (tOp (rIn K true) ta tb) (tDNotIn ta tb)
def ttOr (t u : TT) : TT := fun σ H Q => t σ H Q ∨ u σ H Q
def tInT (K : PySem.W.Frag) (ta tb : TE) : TT := ttOr (tTest (tOp (rIn K false) ta tb)) (tB (tDIn ta tb))
def tNotInT (K : PySem.W.Frag) (ta tb : TE) : TT := ttOr (tTest (tOp (rIn K true) ta tb)) (tB (tDNotIn ta tb))
def rLenSeq (K : PySem.W.Frag) : List V → Hp → VK → Prop := fun xs H Q => ∃ p ys, xs = [.ref p] ∧ (SqL K H p ys ∨ SqT K H p ys) ∧ Q (.int ys.length) H
def rLenStr : List V → Hp → VK → Prop := fun xs H Q => ∃ z, xs = [.str z] ∧ z.length ≤ sizeLine ∧ Q (.int z.length) H
def rLenU (K : PySem.W.Frag) : List V → Hp → VK → Prop := cOr (rLenSeq K) rLenStr
def rAbs : List V → Hp → VK → Prop := fun xs H Q => ∃ i, xs = [.int i] ∧ Q (.int (if i < 0 then -i else i)) H
def rMin2 : List V → Hp → VK → Prop := fun xs H Q => ∃ i j, xs = [.int i, .int j] ∧ Q (.int (if j < i then j else i)) H
def rMax2 : List V → Hp → VK → Prop := fun xs H Q => ∃ i j, xs = [.int i, .int j] ∧ Q (.int (if j > i then j else i)) H
def rTupO (K : PySem.W.Frag) : List V → Hp → VK → Prop := fun xs H Q => ∃ p ys, xs = [.ref p] ∧ ((SqL K H p ys ∧ ∀ l, H l = none → Q (.ref l) (upd H l (.tup ys))) ∨ (SqT K H p ys ∧ Q (.ref p) H))
def rTupU (K : PySem.W.Frag) : List V → Hp → VK → Prop := cOr (rTupO K) (rTupF K)
def rListSq (K : PySem.W.Frag) : List V → Hp → VK → Prop := fun xs H Q => ∃ p ys, xs = [.ref p] ∧ (SqL K H p ys ∨ SqT K H p ys) ∧ ∀ l, H l = none → Q (.ref l) (upd H l (.lst ys))
def rSortedD : List V → Hp → VK → Prop := fun xs H Q => ∃ (a : Addr) (kvs : List (Key × V)) (ks : List Str), xs = [.ref a] ∧ Rd H a (.dK kvs) ∧ kvs.map (·.1) = ks.map Sum.inr ∧ ks.length < 64 ∧ ∀ (ys : List Str) (p : Addr), ys.Perm ks → PyProof.Rows.sortedS ys = true → H p = none → Q (.ref p) (upd H p (.lst (ys.map V.str)))
def rSortedU (K : PySem.W.Frag) : List V → Hp → VK → Prop := cOr (rSortedS K) rSortedD
def rInt1 : List V → Hp → VK → Prop := fun xs H Q => (∃ i, xs = [.int i] ∧ Q (.int i) H) ∨ ∃ k, xs = [.bl k] ∧ Q (.int (if k then 1 else 0)) H
def iSeq (K : PySem.W.Frag) (te : TE) : TI := iOr (iTup K te) (iOr (iList K te) (iStr te))
def slU (K : PySem.W.Frag) : V → Option Int → Option Int → Hp → VK → Prop := slOr (rSlA K) (slOr (rSlL K) (rSlF K))
section
variable {X : Cx} {a b : Expr} {ta tb : TE} {pos : Pos}
theorem por {e : Expr} {t u : TE} (h : PE X e t) (k : PE X e u) : PE X e (eOr t u) := ⟨fun pins s σ H Q I z => z.elim (h.run pins s σ H Q I) (k.run pins s σ H Q I)⟩
theorem pior {tg e : Expr} {t u : TI} (h : PI X tg e t) (k : PI X tg e u) : PI X tg e (iOr t u) := ⟨fun pins s σ H R I z => z.elim (h.run pins s σ H R I) (k.run pins s σ H R I)⟩
theorem slor {r q : V → Option Int → Option Int → Hp → VK → Prop} (h : SlR X r) (k : SlR X q) : SlR X (slOr r q) := fun pins s σ H x v vl vu lo hi sl Q I rx hs pl pu z =>
  z.elim (h pins s σ H x v vl vu lo hi sl Q I rx hs pl pu) (k pins s σ H x v vl vu lo hi sl Q I rx hs pl pu)
theorem opr_or {f : Value → Value → Sem Value} {r q : R2} (h : OpR X f r) (k : OpR X f q) : OpR X f (rOr r q) := OpR.or h k
theorem cr_or {f : Value} {r q : List V → Hp → VK → Prop} (h : CallR X f r) (k : CallR X f q) : CallR X f (cOr r q) := CallR.or h k
theorem ou_add : OpR X (binaryOp .Add) (rAddU X.K) := opr_or op_add (opr_or op_catA (opr_or op_catF op_add_str))
theorem ou_lt {k : Nat} (_ : Room k X.A) : OpR X (compareOp .Lt) (rLtU X.K) := opr_or op_lt op_lt_str
theorem ou_eq {k : Nat} (hr : Room k X.A) : OpR X (compareOp .Eq) (rEqU X.K) := opr_or op_eq (op_eqD hr.units)
theorem ou_ne {k : Nat} (hr : Room k X.A) : OpR X (compareOp .NotEq) (rNeU X.K) := opr_or op_ne (op_neD hr.units)
theorem pu_ix {k : Nat} (hr : Room k X.A) (ha : PE X a ta) (hb : PE X b tb) (hs : PlainIx b) : PE X (.Subscript a b pos) (rIxU X.K ta tb) := por (pe_ix ix_tup ha hb hs) (por (pe_ix ix_list ha hb hs) (pe_dget (hu_of hr) ha hb hs))
theorem pu_in {k : Nat} (hr : Room k X.A) (ha : PE X a ta) (hb : PE X b tb) (hm : behindInMarks .In b = false) : PE X (.Compare a [.In] [b] pos) (rInU X.K ta tb) := por (pe_cmpR op_in_seq ha hb hm) (pe_cmp (pc_din (hu_of hr) ha hb) hm)
theorem pu_notin {k : Nat} (hr : Room k X.A) (ha : PE X a ta) (hb : PE X b tb) (hm : behindInMarks .NotIn b = false) : PE X (.Compare a [.NotIn] [b] pos) (rNotInU X.K ta tb) := por (pe_cmpR op_notIn_seq ha hb hm) (pe_cmp (pc_dnotin (hu_of hr) ha hb) hm)
theorem ptor {e : Expr} {t u : TT} (h : PT X e t) (k : PT X e u) : PT X e (ttOr t u) := ⟨fun pins s σ H Q I z => z.elim (h.run pins s σ H Q I) (k.run pins s σ H Q I)⟩
theorem pu_inT {k : Nat} (hr : Room k X.A) (ha : PE X a ta) (hb : PE X b tb) (hm : behindInMarks .In b = false) : PT X (.Compare a [.In] [b] pos) (tInT X.K ta tb) := ptor (pt_cmpR op_in_seq ha hb hm) (pt_cmp (pc_din (hu_of hr) ha hb) hm)
theorem pu_notinT {k : Nat} (hr : Room k X.A) (ha : PE X a ta) (hb : PE X b tb) (hm : behindInMarks .NotIn b = false) : PT X (.Compare a [.NotIn] [b] pos) (tNotInT X.K ta tb) := ptor (pt_cmpR op_notIn_seq ha hb hm) (pt_cmp (pc_dnotin (hu_of hr) ha hb) hm)
theorem pu_tup {es : List Expr} {t : TA} {x1 : Nat} (h : PA X es t) : PE X (.Tuple es x1 pos) (tTupU t) := por (pe_tup h) (pe_tupF h)
theorem cu_len : CallR X (.builtin "len") (rLenU X.K) := cr_or call_len_seq call_len_str
theorem cu_tup : CallR X (.type "tuple") (rTupU X.K) := cr_or call_tuple_of cu_tupF
theorem cu_sorted (hc : X.calm = true) : CallR X (.builtin "sorted") (rSortedU X.K) := cr_or cr_sortedS (call_sortedD hc)
theorem pu_seq {tg e : Expr} {te : TE} (h : PE X e te) : PI X tg e (iSeq X.K te) := pior (pi_tup h) (pior (pi_list h) (pi_str h))
theorem su_any : SlR X (slU X.K) := slor sl_tupA (slor sl_list sl_tupF)
end
/-! ### the same over data -/
section
variable {K : PySem.W.Frag} {lk : Bool} {ρ : List Sl} {ta tb te : TE} {tt tu : TT} {A B P : D → Prop} {x y z d : D} {r q : R2} {t u : TE}
theorem ev_l (h : EvS K lk t ρ P) : EvS K lk (eOr t u) ρ P := fun w0 w σ s Q g => .inl (h w0 w σ s Q g)
theorem ev_r (h : EvS K lk u ρ P) : EvS K lk (eOr t u) ρ P := fun w0 w σ s Q g => .inr (h w0 w σ s Q g)
theorem rvl (h : RvS K lk r x y P) : RvS K lk (rOr r q) x y P := fun w v u ok l r1 r2 Q g => .inl (h w v u ok l r1 r2 Q g)
theorem rvr (h : RvS K lk q x y P) : RvS K lk (rOr r q) x y P := fun w v u ok l r1 r2 Q g => .inr (h w v u ok l r1 r2 Q g)
theorem rcl {f g : List V → Hp → VK → Prop} {as : List Ar} (h : RcS K lk f as P) : RcS K lk (cOr f g) as P := fun w vs ok l r Q k => .inl (h w vs ok l r Q k)
theorem rcr {f g : List V → Hp → VK → Prop} {as : List Ar} (h : RcS K lk g as P) : RcS K lk (cOr f g) as P := fun w vs ok l r Q k => .inr (h w vs ok l r Q k)
theorem itl {a b : TI} {X : List D → Prop} (h : ItS K lk a ρ X) : ItS K lk (iOr a b) ρ X := fun w0 w σ s R k => .inl (h w0 w σ s R k)
theorem itr {a b : TI} {X : List D → Prop} (h : ItS K lk b ρ X) : ItS K lk (iOr a b) ρ X := fun w0 w σ s R k => .inr (h w0 w σ s R k)
theorem is_tup {xs : List D} (h : EvD K lk te ρ (.tup xs)) : ItS K lk (iSeq K te) ρ (fun ys => ys = xs) := itl (it_tup h)
theorem is_lst {xs : List D} (h : EvD K lk te ρ (.lst xs)) : ItS K lk (iSeq K te) ρ (fun ys => ys = xs) := itr (itl (it_list h))
section
variable {i j : Int}
theorem eu_add (ha : EvD K lk ta ρ (.int i)) (hb : EvD K lk tb ρ (.int j)) : EvD K lk (tOp (rAddU K) ta tb) ρ (.int (i + j)) := ev_op2 ha hb (rvl (rv_I0 fun _ => rfl))
theorem eu_lt (ha : EvD K lk ta ρ (.int i)) (hb : EvD K lk tb ρ (.int j)) : EvD K lk (tOp (rLtU K) ta tb) ρ (.bl (decide (i < j))) := ev_op2 ha hb (rvl (rv_I0 fun _ => rfl))
theorem eu_ltS {i j : Str} (ha : EvD K lk ta ρ (.str i)) (hb : EvD K lk tb ρ (.str j)) : EvD K lk (tOp (rLtU K) ta tb) ρ (.bl (decide (i.cps.toList < j.cps.toList))) := ev_op2 ha hb (rvr fun w v u ok _ r1 r2 Q g => ⟨i, j, r1, r2, g.here (d := .bl _) ok rfl rfl⟩)
theorem eu_isN (ha : EvD K lk ta ρ x) (hb : EvD K lk tb ρ .non) (b : Bool) (h : ∀ I v, Rp K I x v → decide (v = .non) = b) : EvD K lk (tOp rIsN ta tb) ρ (.bl b) := ev_op2 ha hb fun w v u ok _ r1 r2 Q g => ⟨r2, by rw [h _ _ r1]; exact g.here (d := .bl b) ok rfl rfl⟩
theorem eu_notN (ha : EvD K lk ta ρ x) (hb : EvD K lk tb ρ .non) (b : Bool) (h : ∀ I v, Rp K I x v → decide (v = .non) = b) : EvD K lk (tOp rNotN ta tb) ρ (.bl (!b)) := ev_op2 ha hb fun w v u ok _ r1 r2 Q g => ⟨r2, by rw [h _ _ r1]; exact g.here (d := .bl (!b)) ok rfl rfl⟩
end
/-- t + u, tuples -/
theorem eu_cat {xs ys : List D} (ha : EvD K lk ta ρ (.tup xs)) (hb : EvD K lk tb ρ (.tup ys)) (hl : xs.length + ys.length ≤ 100000) : EvD K lk (tOp (rAddU K) ta tb) ρ (.tup (xs ++ ys)) := ev_op2 ha hb (rvr (rvl fun w v u ok _ r1 r2 Q g => by
  obtain ⟨a, vs, e1, s1, p1⟩ := r1
  obtain ⟨b, us, e2, s2, p2⟩ := r2
  refine ⟨a, b, vs, us, e1, e2, sqTH ok s1, sqTH ok s2, by rw [p1.length, p2.length]; exact Nat.le_trans hl (by decide), fun z => ?_, fun _ z => ?_, fun _ _ c hc => ?_⟩
  · subst z
    have e : xs = [] := List.length_eq_zero_iff.mp p1.length.symm
    subst e
    exact g.here (d := .tup ys) ok ⟨b, us, rfl, s2, p2⟩ rfl
  · subst z
    have e : ys = [] := List.length_eq_zero_iff.mp p2.length.symm
    subst e
    rw [List.append_nil] at g
    exact g.here (d := .tup xs) ok ⟨a, vs, rfl, s1, p1⟩ rfl
  · exact g.new (d := .tup (xs ++ ys)) ok hc True.intro ⟨c, _, rfl, .inl (.inl upd_same), (p1.append p2).mono (same_new (notI ok hc))⟩ rfl))
/-! ### == of data -/
mutual
def py : D → PyData
  | .non => .none
  | .bl b => .bool b
  | .int i => .int i
  | .str s => .str s
  | .lst xs => .list (pyL xs)
  | .tup xs => .tuple (pyL xs)
  | .tk ks => .tuple (ks.map fun k => match k with | .inl i => PyData.int i | .inr s => PyData.str s)
  | .tf ss => .tuple (ss.map PyData.str)
  | .li ns => .list (ns.map PyData.int)
  | .dk _ => .dict []
  | .dt _ => .dict []
def pyL : List D → List PyData
  | [] => []
  | d :: ds => py d :: pyL ds
end
/-- no dict within, not deep -/
def Plain : Nat → D → Prop
  | _, .non => True
  | _, .bl _ => True
  | _, .int _ => True
  | _, .str s => PyData.strOk s = true
  | n + 1, .lst xs => ∀ x ∈ xs, Plain n x
  | n + 1, .tup xs => ∀ x ∈ xs, Plain n x
  | _, _ => False
theorem plainL {n : Nat} (ih : ∀ d, Plain n d → (py d).canLay0 = true ∧ (py d).depth ≤ n) : ∀ xs : List D, (∀ x ∈ xs, Plain n x) → PyData.canLayAll0 (pyL xs) = true ∧ PyData.depthAll (pyL xs) ≤ n
  | [], _ => ⟨rfl, Nat.zero_le _⟩
  | d :: ds, h => by
    obtain ⟨a1, a2⟩ := ih d (h d (by simp))
    obtain ⟨b1, b2⟩ := plainL ih ds fun x hx => h x (by simp [hx])
    refine ⟨?_, ?_⟩
    · simp only [pyL, PyData.canLayAll0, a1, b1, Bool.and_self]
    · simp only [pyL, PyData.depthAll]
      omega
theorem plain_lay : ∀ (n : Nat) (d : D), Plain n d → (py d).canLay0 = true ∧ (py d).depth ≤ n
  | n, .non, h => ⟨rfl, Nat.zero_le _⟩
  | n, .bl _, h => ⟨rfl, Nat.zero_le _⟩
  | n, .int _, h => ⟨rfl, Nat.zero_le _⟩
  | n, .str s, h => by
    have h : PyData.strOk s = true := by cases n <;> exact h
    exact ⟨by simp only [py, PyData.canLay0]; exact h, Nat.zero_le _⟩
  | 0, .lst xs, h => h.elim
  | 0, .tup xs, h => h.elim
  | 0, .tk xs, h => h.elim
  | n + 1, .tk xs, h => h.elim
  | 0, .tf xs, h => h.elim
  | n + 1, .tf xs, h => h.elim
  | 0, .li xs, h => h.elim
  | n + 1, .li xs, h => h.elim
  | 0, .dk xs, h => h.elim
  | 0, .dt xs, h => h.elim
  | n + 1, .dk xs, h => h.elim
  | n + 1, .dt xs, h => h.elim
  | n + 1, .lst xs, h => by
    obtain ⟨a, b⟩ := plainL (fun d hd => plain_lay n d hd) xs h
    exact ⟨by simp only [py, PyData.canLay0]; exact a, by simp only [py, PyData.depth]; omega⟩
  | n + 1, .tup xs, h => by
    obtain ⟨a, b⟩ := plainL (fun d hd => plain_lay n d hd) xs h
    exact ⟨by simp only [py, PyData.canLay0]; exact a, by simp only [py, PyData.depth]; omega⟩
theorem plain_shaped {n : Nat} {d : D} (h : Plain n d) (hn : n ≤ 64) : SeqAt.shaped (py d) = true := by
  obtain ⟨a, b⟩ := plain_lay n d h
  unfold SeqAt.shaped
  rw [a, decide_eq_true (Nat.le_trans b hn)]
  rfl
mutual
theorem dp_of {I : Hp} : ∀ {n : Nat} {d : D} {v : V}, Plain n d → Rp K I d v → Dp K I v (py d)
  | _, .non, _, _, r => by rw [show _ = V.non from r]; exact .non
  | _, .bl b, _, _, r => by rw [show _ = V.bl b from r]; exact .bl b
  | _, .int b, _, _, r => by rw [show _ = V.int b from r]; exact .int b
  | _, .str b, _, _, r => by rw [show _ = V.str b from r]; exact .str b
  | 0, .lst xs, _, h, _ => h.elim
  | 0, .tup xs, _, h, _ => h.elim
  | 0, .tk xs, _, h, _ => h.elim
  | n + 1, .tk xs, _, h, _ => h.elim
  | 0, .tf xs, _, h, _ => h.elim
  | n + 1, .tf xs, _, h, _ => h.elim
  | 0, .li xs, _, h, _ => h.elim
  | n + 1, .li xs, _, h, _ => h.elim
  | 0, .dk xs, _, h, _ => h.elim
  | 0, .dt xs, _, h, _ => h.elim
  | n + 1, .dk xs, _, h, _ => h.elim
  | n + 1, .dt xs, _, h, _ => h.elim
  | n + 1, .lst xs, _, h, ⟨a, vs, e, s, r⟩ => by rw [e]; exact .lst s (dpL_of (n := n) h r)
  | n + 1, .tup xs, _, h, ⟨a, vs, e, s, r⟩ => by rw [e]; exact .tup s (dpL_of (n := n) h r)
theorem dpL_of {I : Hp} : ∀ {n : Nat} {ds : List D} {vs : List V}, (∀ x ∈ ds, Plain n x) → RpL K I ds vs → DpAll K I vs (pyL ds)
  | _, [], _, _, r => by rw [show _ = [] from r]; exact .nil
  | n, d :: ds, _, h, ⟨v, s, e, r, q⟩ => by rw [e]; exact .cons (dp_of (n := n) (h d (by simp)) r) (dpL_of (n := n) (fun x hx => h x (by simp [hx])) q)
end
def eqD (d e : D) : Bool := PyData.eqv (py d) (py e)
theorem Dp.toH {w : Wd} (ok : w.Ok) {n : Nat} {v : V} (h : Plain n d) (r : Rp K w.I d v) : Dp K w.H v (py d) := dp_of h (r.mono ok.sub)
theorem eu_eqD (n : Nat) (ha : EvD K lk ta ρ x) (hb : EvD K lk tb ρ y) (h1 : Plain n x) (h2 : Plain n y) (hn : n ≤ 64 := by decide) : EvD K lk (tOp (rEqU K) ta tb) ρ (.bl (eqD x y)) := ev_op2 ha hb (rvr fun w v u ok _ r1 r2 Q g =>
  ⟨py x, py y, Dp.toH ok h1 r1, Dp.toH ok h2 r2, plain_shaped h1 hn, plain_shaped h2 hn, g.here (d := .bl (eqD x y)) ok rfl rfl⟩)
theorem eu_neD (n : Nat) (ha : EvD K lk ta ρ x) (hb : EvD K lk tb ρ y) (h1 : Plain n x) (h2 : Plain n y) (hn : n ≤ 64 := by decide) : EvD K lk (tOp (rNeU K) ta tb) ρ (.bl (!eqD x y)) := ev_op2 ha hb (rvr fun w v u ok _ r1 r2 Q g =>
  ⟨py x, py y, Dp.toH ok h1 r1, Dp.toH ok h2 r2, plain_shaped h1 hn, plain_shaped h2 hn, g.here (d := .bl (!eqD x y)) ok rfl rfl⟩)
theorem eu_eq (ha : EvD K lk ta ρ x) (hb : EvD K lk tb ρ y) (h : flatD x y = true) : EvD K lk (tOp (rEqU K) ta tb) ρ (.bl (eqF x y)) := ev_op2 ha hb (rvl fun w v u ok _ r1 r2 Q q => by
  obtain ⟨s1, s2⟩ := scal_of h r1 r2
  exact ⟨s1, by rw [s2]; exact q.here (d := .bl _) ok rfl rfl⟩)
theorem eu_ne (ha : EvD K lk ta ρ x) (hb : EvD K lk tb ρ y) (h : flatD x y = true) : EvD K lk (tOp (rNeU K) ta tb) ρ (.bl (!eqF x y)) := ev_op2 ha hb (rvl fun w v u ok _ r1 r2 Q q => by
  obtain ⟨s1, s2⟩ := scal_of h r1 r2
  exact ⟨s1, by rw [s2]; exact q.here (d := .bl _) ok rfl rfl⟩)
theorem eu_eqI {i j : Int} (ha : EvD K lk ta ρ (.int i)) (hb : EvD K lk tb ρ (.int j)) : EvD K lk (tOp (rEqU K) ta tb) ρ (.bl (decide (i = j))) := eu_eq ha hb rfl
theorem eu_neI {i j : Int} (ha : EvD K lk ta ρ (.int i)) (hb : EvD K lk tb ρ (.int j)) : EvD K lk (tOp (rNeU K) ta tb) ρ (.bl (!decide (i = j))) := eu_ne ha hb rfl
theorem eu_eqS {i j : Str} (ha : EvD K lk ta ρ (.str i)) (hb : EvD K lk tb ρ (.str j)) : EvD K lk (tOp (rEqU K) ta tb) ρ (.bl (decide (i = j))) := eu_eq ha hb rfl
theorem eu_neS {i j : Str} (ha : EvD K lk ta ρ (.str i)) (hb : EvD K lk tb ρ (.str j)) : EvD K lk (tOp (rNeU K) ta tb) ρ (.bl (!decide (i = j))) := eu_ne ha hb rfl
theorem eu_eqB {i j : Bool} (ha : EvD K lk ta ρ (.bl i)) (hb : EvD K lk tb ρ (.bl j)) : EvD K lk (tOp (rEqU K) ta tb) ρ (.bl (decide (i = j))) := eu_eq ha hb rfl
theorem eu_neB {i j : Bool} (ha : EvD K lk ta ρ (.bl i)) (hb : EvD K lk tb ρ (.bl j)) : EvD K lk (tOp (rNeU K) ta tb) ρ (.bl (!decide (i = j))) := eu_ne ha hb rfl
/-! ### subscripts, in -/
theorem eu_ixT {ds : List D} {i : Int} (ha : EvD K lk ta ρ (.tup ds)) (hb : EvD K lk tb ρ (.int i)) (h : atI ds i = some d) : EvD K lk (rIxU K ta tb) ρ d := ev_l (ev_ixT ha hb h)
theorem eu_ixL {ds : List D} {i : Int} (ha : EvD K lk ta ρ (.lst ds)) (hb : EvD K lk tb ρ (.int i)) (h : atI ds i = some d) : EvD K lk (rIxU K ta tb) ρ d := ev_r (ev_l (ev_ixL ha hb h))
theorem inV_strs (s : Str) (xs : List Str) : inV (.str s) (xs.map V.str) = decide (s ∈ xs) := by
  unfold inV
  rw [List.any_map]
  induction xs with
  | nil => simp
  | cons a r ih =>
    rw [List.any_cons, ih]
    show (eqV (V.str a) (V.str s) || _) = _
    by_cases e : a = s
    · subst e; simp [eqV]
    · have : ¬ s = a := fun z => e z.symm
      simp [eqV, e, this]
theorem flat_strs (xs : List Str) : (xs.map V.str).all flatV = true := by
  rw [List.all_map, List.all_eq_true]
  intro x _
  rfl
theorem et_l {t u : TT} {T : Bool → Prop} (h : EvT K lk t ρ T) : EvT K lk (ttOr t u) ρ T := fun w0 w σ s Q g => .inl (h w0 w σ s Q g)
theorem et_r {t u : TT} {T : Bool → Prop} (h : EvT K lk u ρ T) : EvT K lk (ttOr t u) ρ T := fun w0 w σ s Q g => .inr (h w0 w σ s Q g)
theorem ev_inS (neg : Bool) {s : Str} {xs : List Str} (ha : EvD K lk ta ρ (.str s)) (hb : EvD K lk tb ρ (.lst (xs.map D.str))) : EvD K lk (tOp (rIn K neg) ta tb) ρ (.bl (if neg then !decide (s ∈ xs) else decide (s ∈ xs))) := ev_op2 ha hb fun w v u ok _ r1 r2 Q g => by
  obtain ⟨a, vs, e, sq, r⟩ := r2
  have ev : vs = xs.map V.str := r.strs
  subst ev
  have e1 : v = .str s := r1
  subst e1
  refine ⟨a, _, e, .inl (sqLH ok sq), rfl, flat_strs xs, ?_⟩
  rw [inV_strs]
  exact g.here (d := .bl _) ok rfl rfl
theorem eu_inS {s : Str} {xs : List Str} (ha : EvD K lk ta ρ (.str s)) (hb : EvD K lk tb ρ (.lst (xs.map D.str))) : EvD K lk (rInU K ta tb) ρ (.bl (decide (s ∈ xs))) := ev_l (ev_inS false ha hb)
theorem eu_notinS {s : Str} {xs : List Str} (ha : EvD K lk ta ρ (.str s)) (hb : EvD K lk tb ρ (.lst (xs.map D.str))) : EvD K lk (rNotInU K ta tb) ρ (.bl (!decide (s ∈ xs))) := ev_l (ev_inS true ha hb)
theorem et_inS {s : Str} {xs : List Str} (ha : EvD K lk ta ρ (.str s)) (hb : EvD K lk tb ρ (.lst (xs.map D.str))) : EvB K lk (tInT K ta tb) ρ (decide (s ∈ xs)) := et_l (et_test (ev_inS false ha hb))
theorem et_notinS {s : Str} {xs : List Str} (ha : EvD K lk ta ρ (.str s)) (hb : EvD K lk tb ρ (.lst (xs.map D.str))) : EvB K lk (tNotInT K ta tb) ρ (!decide (s ∈ xs)) := et_l (et_test (ev_inS true ha hb))
/-! ### built-ins -/
theorem eu_lenL {xs : List D} {ta : TE} (h : EvD K lk ta ρ (.lst xs)) : EvD K lk (tCB (rLenU K) (tCons ta tNil)) ρ (.int xs.length) := ev_cb1 (ea_cons h ea_nil) (rcl fun w vs ok _ r Q g => by
  obtain ⟨v, e, r⟩ := ars_one r
  obtain ⟨a, us, e2, sq, r2⟩ := r
  refine ⟨a, us, by rw [e, e2], .inl (sqLH ok sq), ?_⟩
  rw [r2.length]
  exact g.here (d := .int xs.length) ok rfl rfl)
theorem eu_lenT {xs : List D} {ta : TE} (h : EvD K lk ta ρ (.tup xs)) : EvD K lk (tCB (rLenU K) (tCons ta tNil)) ρ (.int xs.length) := ev_cb1 (ea_cons h ea_nil) (rcl fun w vs ok _ r Q g => by
  obtain ⟨v, e, r⟩ := ars_one r
  obtain ⟨a, us, e2, sq, r2⟩ := r
  refine ⟨a, us, by rw [e, e2], .inr (sqTH ok sq), ?_⟩
  rw [r2.length]
  exact g.here (d := .int xs.length) ok rfl rfl)
theorem eu_lenS {z : Str} {ta : TE} (h : EvD K lk ta ρ (.str z)) (hl : z.length ≤ 100000) : EvD K lk (tCB (rLenU K) (tCons ta tNil)) ρ (.int z.length) := ev_cb1 (ea_cons h ea_nil) (rcr fun w vs ok _ r Q g => by
  obtain ⟨v, e, r⟩ := ars_one r
  have e1 : v = .str z := r
  subst e1
  exact ⟨z, e, Nat.le_trans hl (by decide), g.here (d := .int z.length) ok rfl rfl⟩)
theorem eu_abs {i : Int} {ta : TE} (h : EvD K lk ta ρ (.int i)) : EvD K lk (tCB rAbs (tCons ta tNil)) ρ (.int (if i < 0 then -i else i)) := ev_cb1 (ea_cons h ea_nil) fun w vs ok _ r Q g => by
  obtain ⟨v, e, r⟩ := ars_one r
  exact ⟨i, by rw [e, show v = .int i from r], g.here (d := .int _) ok rfl rfl⟩
theorem eu_min2 {i j : Int} {ta tb : TE} (h : EvD K lk ta ρ (.int i)) (h' : EvD K lk tb ρ (.int j)) : EvD K lk (tCB rMin2 (tCons ta (tCons tb tNil))) ρ (.int (if j < i then j else i)) := ev_cb1 (ea_cons h (ea_cons h' ea_nil)) fun w vs ok _ r Q g => by
  obtain ⟨v, u, e, r1, r2⟩ := ars_two r
  exact ⟨i, j, by rw [e, show v = .int i from r1, show u = .int j from r2], g.here (d := .int _) ok rfl rfl⟩
theorem eu_max2 {i j : Int} {ta tb : TE} (h : EvD K lk ta ρ (.int i)) (h' : EvD K lk tb ρ (.int j)) : EvD K lk (tCB rMax2 (tCons ta (tCons tb tNil))) ρ (.int (if j > i then j else i)) := ev_cb1 (ea_cons h (ea_cons h' ea_nil)) fun w vs ok _ r Q g => by
  obtain ⟨v, u, e, r1, r2⟩ := ars_two r
  exact ⟨i, j, by rw [e, show v = .int i from r1, show u = .int j from r2], g.here (d := .int _) ok rfl rfl⟩
theorem eu_sum {ns : List Int} {ta : TE} (h : EvD K lk ta ρ (.lst (ns.map D.int))) : EvD K lk (tCB (rSum K) (tCons ta tNil)) ρ (.int ns.sum) := ev_cb1 (ea_cons h ea_nil) fun w vs ok _ r Q g => by
  obtain ⟨v, e, r⟩ := ars_one r
  obtain ⟨a, us, e2, sq, r2⟩ := r
  rw [r2.ints] at sq
  exact ⟨a, ns, by rw [e, e2], sqLH ok sq, g.here (d := .int ns.sum) ok rfl rfl⟩
theorem eu_all {bs : List Bool} {ta : TE} (h : EvD K lk ta ρ (.lst (bs.map D.bl))) : EvD K lk (tCB (rAll K) (tCons ta tNil)) ρ (.bl (bs.all id)) := ev_cb1 (ea_cons h ea_nil) fun w vs ok _ r Q g => by
  obtain ⟨v, e, r⟩ := ars_one r
  obtain ⟨a, us, e2, sq, r2⟩ := r
  rw [r2.bls] at sq
  exact ⟨a, bs, by rw [e, e2], sqLH ok sq, g.here (d := .bl _) ok rfl rfl⟩
theorem eu_any {bs : List Bool} {ta : TE} (h : EvD K lk ta ρ (.lst (bs.map D.bl))) : EvD K lk (tCB (rAny K) (tCons ta tNil)) ρ (.bl (bs.any id)) := ev_cb1 (ea_cons h ea_nil) fun w vs ok _ r Q g => by
  obtain ⟨v, e, r⟩ := ars_one r
  obtain ⟨a, us, e2, sq, r2⟩ := r
  rw [r2.bls] at sq
  exact ⟨a, bs, by rw [e, e2], sqLH ok sq, g.here (d := .bl _) ok rfl rfl⟩
theorem eu_tupL {xs : List D} {ta : TE} (h : EvD K lk ta ρ (.lst xs)) : EvD K lk (tCB (rTupU K) (tCons ta tNil)) ρ (.tup xs) := ev_cb1 (ea_cons h ea_nil) (rcl fun w vs ok _ r Q g => by
  obtain ⟨v, e, r⟩ := ars_one r
  obtain ⟨a, us, e2, sq, r2⟩ := r
  exact ⟨a, us, by rw [e, e2], .inl ⟨sqLH ok sq, fun l hl => g.new (d := .tup xs) ok hl True.intro ⟨l, us, rfl, .inl (.inl upd_same), r2.mono (same_new (notI ok hl))⟩ rfl⟩⟩)
theorem eu_tupO {i : Nat} {xs : List D} (hi : ρ[i]? = some (.lst xs)) : EvD K lk (tCB (rTupU K) (tCons (tVar i) tNil)) ρ (.tup xs) := fun w0 w σ s Q g => by
  obtain ⟨a, ea, h0, hI, ht, vs, hH, r⟩ := s.sl i _ hi
  exact ⟨.ref a, ea, .inl ⟨a, vs, rfl, .inl ⟨.inl (.inl hH), fun l hl => g.new (d := .tup xs) s.ok hl True.intro ⟨l, vs, rfl, .inl (.inl upd_same), r.mono (same_new (notI s.ok hl))⟩ rfl⟩⟩⟩
/-! ### tuples of texts whose object is known -/
theorem ev_w {e : D} (h : EvD K lk te ρ d) (hw : ∀ I v, Rp K I d v → Rp K I e v) : EvD K lk te ρ e := fun w0 w σ s Q g => h w0 w σ s Q fun v w' d' l ok r q => by
  subst q
  exact g v w' e l ok (hw _ _ r) rfl
theorem ev_tf {ss : List Str} (h : EvD K lk te ρ (.tf ss)) : EvD K lk te ρ (.tup (ss.map D.str)) := ev_w h fun _ _ r => tf_tup r
theorem ev_li {ns : List Int} (h : EvD K lk te ρ (.li ns)) : EvD K lk te ρ (.lst (ns.map D.int)) := ev_w h fun _ _ r => li_lst r
theorem ev_tk {ks : List Key} (h : EvD K lk te ρ (.tk ks)) : EvD K lk te ρ (.tup (ks.map kD)) := ev_w h fun _ _ r => tk_tup r
theorem eu_tup {ta : TA} {ds : List D} (h : EvA K lk ta ρ (fun x => x = dats ds)) (hl : ds.length ≤ 1000 := by exact Nat.le_of_ble_eq_true rfl) : EvD K lk (tTupU ta) ρ (.tup ds) := ev_l (ev_tup h hl)
theorem eu_tup' {ta : TA} {C : List Ar → Prop} (h : EvA K lk ta ρ C) (i : ∀ as, C as → ∃ ds, as = dats ds ∧ ds.length ≤ 1000 ∧ P (.tup ds)) : EvS K lk (tTupU ta) ρ P := ev_l (ev_tup' h i)
theorem new_tf {w : Wd} {Q : VK} {p : Addr} {o : Obj} {ss : List Str} (g : Gets K w P Q) (ok : w.Ok) (h : w.H p = none) (hd : o.dict = none) (q : P (.tf ss)) : Q (.ref p) (upd w.H p (.frz o (.tup (ss.map V.str)))) :=
  g.new (d := .tf ss) ok h True.intro ⟨p, o, rfl, upd_same, hd⟩ q
theorem eu_tupF' {ta : TA} {C : List Ar → Prop} (h : EvA K lk ta ρ C) (i : ∀ as, C as → ∃ ss : List Str, as = dats (ss.map D.str) ∧ ss.length ≤ 1000 ∧ P (.tf ss)) : EvS K lk (tTupU ta) ρ P := ev_r fun w0 w σ s Q g =>
  h w0 w σ s _ fun vs w1 as l1 ok1 r1 c => by
    obtain ⟨ss, rfl, hl, p⟩ := i as c
    have ev : vs = ss.map V.str := (ars_dats r1).strs
    subst ev
    exact ⟨by rw [List.length_map]; exact Nat.le_trans hl (by decide), fun a o ha hd => new_tf (g.up l1) ok1 ha hd p⟩
theorem eu_tupF {ta : TA} (ss : List Str) (h : EvA K lk ta ρ (fun x => x = dats (ss.map D.str))) (hl : ss.length ≤ 1000 := by exact Nat.le_of_ble_eq_true rfl) : EvD K lk (tTupU ta) ρ (.tf ss) := eu_tupF' h fun as e => ⟨ss, e, hl, rfl⟩
theorem sqT_tf {w : Wd} (ok : w.Ok) {a : Addr} {o : Obj} {ss : List Str} (h : w.I a = some (.frz o (.tup (ss.map V.str)))) : SqT K w.H a (ss.map V.str) := .inl (.inr ⟨o, ok.sub _ _ h⟩)
theorem eu_catF {xs ys : List Str} (ha : EvD K lk ta ρ (.tf xs)) (hb : EvD K lk tb ρ (.tf ys)) (hl : xs.length + ys.length ≤ 100000) : EvD K lk (tOp (rAddU K) ta tb) ρ (.tf (xs ++ ys)) := ev_op2 ha hb (rvr (rvr (rvl fun w v u ok _ r1 r2 Q g => by
  obtain ⟨a, o1, rfl, s1, d1⟩ := r1
  obtain ⟨b, o2, rfl, s2, d2⟩ := r2
  refine ⟨a, b, _, _, rfl, rfl, sqT_tf ok s1, sqT_tf ok s2, by rw [List.length_map, List.length_map]; exact Nat.le_trans hl (by decide), fun z => ?_, fun z => ?_, fun c o hc hd => ?_⟩
  · have e : xs = [] := List.map_eq_nil_iff.mp z
    subst e
    exact g.here (d := .tf ys) ok ⟨b, o2, rfl, s2, d2⟩ rfl
  · have e : ys = [] := List.map_eq_nil_iff.mp z
    subst e
    rw [List.append_nil] at g
    exact g.here (d := .tf xs) ok ⟨a, o1, rfl, s1, d1⟩ rfl
  · rw [← List.map_append]
    exact new_tf g ok hc hd rfl)))
theorem eu_tfL {ss : List Str} {ta : TE} (h : EvD K lk ta ρ (.lst (ss.map D.str))) : EvD K lk (tCB (rTupU K) (tCons ta tNil)) ρ (.tf ss) := ev_cb1 (ea_cons h ea_nil) (rcr fun w vs ok _ r Q g => by
  obtain ⟨v, e, r⟩ := ars_one r
  obtain ⟨a, us, e2, sq, r2⟩ := r
  rw [r2.strs] at sq
  exact ⟨a, _, by rw [e, e2], sqLH ok sq, fun l o hl hd => new_tf g ok hl hd rfl⟩)
theorem eu_tfO {i : Nat} {ss : List Str} (hi : ρ[i]? = some (.lst (ss.map D.str))) : EvD K lk (tCB (rTupU K) (tCons (tVar i) tNil)) ρ (.tf ss) := fun w0 w σ s Q g => by
  obtain ⟨a, ea, h0, hI, ht, vs, hH, r⟩ := s.sl i _ hi
  rw [r.strs] at hH
  exact ⟨.ref a, ea, .inr ⟨a, _, rfl, .inl (.inl hH), fun l o hl hd => new_tf g s.ok hl hd rfl⟩⟩
theorem eu_count {ss : List Str} {s : Str} (ha : EvD K lk ta ρ (.tf ss)) (hb : EvD K lk tb ρ (.str s)) : EvD K lk (tCount ta (tCons tb tNil)) ρ (.int ((ss.count s : Nat) : Int)) := fun w0 w σ sr Q g =>
  ha w0 w σ sr _ fun v w1 d l1 ok1 r1 e => by
    subst e
    obtain ⟨a, o, rfl, s1, d1⟩ := r1
    refine ⟨a, o, ss, rfl, ok1.sub _ _ s1, d1, hb w0 w1 σ (sr.mono l1 ok1) _ fun u w2 d2 l2 ok2 r2 e2 => ?_⟩
    subst e2
    have eu : u = .str s := r2
    subst eu
    exact ⟨s, rfl, ok2.sub _ _ (l2.I _ _ s1), (g.up (l1.trans l2)).here (d := .int _) ok2 rfl rfl⟩
theorem eu_list {xs : List D} {ta : TE} (h : EvD K lk ta ρ (.lst xs)) : EvD K lk (tCB (rListSq K) (tCons ta tNil)) ρ (.lst xs) := ev_cb1 (ea_cons h ea_nil) fun w vs ok _ r Q g => by
  obtain ⟨v, e, r⟩ := ars_one r
  obtain ⟨a, us, e2, sq, r2⟩ := r
  exact ⟨a, us, by rw [e, e2], .inl (sqLH ok sq), fun l hl => g.new (d := .lst xs) ok hl True.intro ⟨l, us, rfl, .inl (.inl upd_same), r2.mono (same_new (notI ok hl))⟩ rfl⟩
theorem eu_intB {b : Bool} {ta : TE} (h : EvD K lk ta ρ (.bl b)) : EvD K lk (tCB rInt1 (tCons ta tNil)) ρ (.int (if b then 1 else 0)) := ev_cb1 (ea_cons h ea_nil) fun w vs ok _ r Q g => by
  obtain ⟨v, e, r⟩ := ars_one r
  exact .inr ⟨b, by rw [e, show v = .bl b from r], g.here (d := .int _) ok rfl rfl⟩
end
end RF

set_option Elab.async false
set_option linter.all false
set_option maxRecDepth 100000
set_option maxHeartbeats 4000000
set_option autoImplicit false
namespace RF
open PySem L2

/-! ### slices -/
section
variable {K : PySem.W.Frag} {lk : Bool} {ρ : List Sl} {ta tb te : TE} {P : D → Prop}
def EvO (K : PySem.W.Frag) (lk : Bool) (to : TO) (ρ : List Sl) (o : Option Int) : Prop := ∀ (w0 w : Wd) (σ : St), Sr K lk w0 w σ ρ → ∀ Q : Option Int → Hp → Prop, (∀ w' : Wd, w.le w' → w'.Ok → Q o w'.H) → to σ w.H Q
theorem eo_none : EvO K lk tNoPart ρ none := fun w0 w σ s Q g => g w (.refl w) s.ok
theorem eo_some {i : Int} (h : EvD K lk te ρ (.int i)) : EvO K lk (tPart te) ρ (some i) := fun w0 w σ s Q g => h w0 w σ s _ fun v w1 d l ok r e => by
  subst e
  exact ⟨i, r, g w1 l ok⟩
def cutD (xs : List D) (lo hi : Option Int) : List D := (xs.drop (HT.sIx xs.length 0 lo)).take (HT.sIx xs.length xs.length hi - HT.sIx xs.length 0 lo)
theorem RpL.cut {I : Hp} {ds : List D} {vs : List V} (r : RpL K I ds vs) (lo hi : Option Int) : RpL K I (cutD ds lo hi) (cutV vs lo hi) := by
  unfold cutD cutV
  rw [r.length]
  exact (r.drop _).take _
theorem cut_whole {ds : List D} {lo hi : Option Int} (h : HT.sIx ds.length 0 lo = 0 ∧ HT.sIx ds.length ds.length hi = ds.length) : cutD ds lo hi = ds := by
  unfold cutD
  rw [h.1, h.2]
  simp
theorem eu_slT {xs : List D} {tl th : TO} {lo hi : Option Int} (h : EvD K lk te ρ (.tup xs)) (hl : EvO K lk tl ρ lo) (hh : EvO K lk th ρ hi) : EvD K lk (tSl (slU K) te tl th) ρ (.tup (cutD xs lo hi)) := fun w0 w σ s Q g =>
  h w0 w σ s _ fun v w1 d l1 ok1 r1 e => hl w0 w1 σ (s.mono l1 ok1) _ fun w2 l2 ok2 => hh w0 w2 σ ((s.mono l1 ok1).mono l2 ok2) _ fun w3 l3 ok3 => by
    subst e
    obtain ⟨a, vs, e, sq, r⟩ := r1
    have r' := r.mono (l2.trans l3).I
    have sq' := sqT_keeps (.of_same (l2.trans l3).I) sq
    refine .inl ⟨a, vs, e, sqTH ok3 sq', fun z => ?_, fun _ p hp => ?_⟩
    · rw [r.length] at z
      exact (g.up ((l1.trans l2).trans l3)).here (d := .tup (cutD xs lo hi)) ok3 (by rw [cut_whole z]; exact ⟨a, vs, rfl, sq', r'⟩) rfl
    · exact (g.up ((l1.trans l2).trans l3)).new (d := .tup (cutD xs lo hi)) ok3 hp True.intro ⟨p, _, rfl, .inl (.inl upd_same), (r'.cut lo hi).mono (same_new (notI ok3 hp))⟩ rfl
theorem eu_slL {xs : List D} {tl th : TO} {lo hi : Option Int} (h : EvD K lk te ρ (.lst xs)) (hl : EvO K lk tl ρ lo) (hh : EvO K lk th ρ hi) : EvD K lk (tSl (slU K) te tl th) ρ (.lst (cutD xs lo hi)) := fun w0 w σ s Q g =>
  h w0 w σ s _ fun v w1 d l1 ok1 r1 e => hl w0 w1 σ (s.mono l1 ok1) _ fun w2 l2 ok2 => hh w0 w2 σ ((s.mono l1 ok1).mono l2 ok2) _ fun w3 l3 ok3 => by
    subst e
    obtain ⟨a, vs, e, sq, r⟩ := r1
    have r' := r.mono (l2.trans l3).I
    have sq' := sqL_keeps (.of_same (l2.trans l3).I) sq
    refine .inr (.inl ⟨a, vs, e, sqLH ok3 sq', fun p hp => ?_⟩)
    exact (g.up ((l1.trans l2).trans l3)).new (d := .lst (cutD xs lo hi)) ok3 hp True.intro ⟨p, _, rfl, .inl (.inl upd_same), (r'.cut lo hi).mono (same_new (notI ok3 hp))⟩ rfl
def cutA {α : Type} (xs : List α) (lo hi : Option Int) : List α := (xs.drop (HT.sIx xs.length 0 lo)).take (HT.sIx xs.length xs.length hi - HT.sIx xs.length 0 lo)
theorem cut_map {α β : Type} (f : α → β) (xs : List α) (lo hi : Option Int) : cutA (xs.map f) lo hi = (cutA xs lo hi).map f := by
  unfold cutA
  rw [List.length_map, List.map_take, List.map_drop]
theorem cutA_to {α : Type} (xs : List α) (n : Nat) : cutA xs none (some (n : Int)) = xs.take n := by
  unfold cutA
  rw [HT.sIx_none, HT.sIx_nat]
  show xs.take (min n xs.length - 0) = _
  rw [Nat.sub_zero]
  by_cases h : n ≤ xs.length
  · rw [Nat.min_eq_left h]
  · rw [Nat.min_eq_right (by omega), List.take_length, List.take_of_length_le (by omega)]
theorem cutA_from {α : Type} (xs : List α) (n : Nat) : cutA xs (some (n : Int)) none = xs.drop n := by
  unfold cutA
  rw [HT.sIx_none, HT.sIx_nat]
  by_cases h : n ≤ xs.length
  · rw [Nat.min_eq_left h, List.take_of_length_le (by rw [List.length_drop]; omega)]
  · rw [Nat.min_eq_right (by omega), Nat.sub_self, List.take_zero, List.drop_eq_nil_of_le (by omega)]
/-- a slice of a tuple of texts whose object is known -/
theorem eu_slF {ss : List Str} {tl th : TO} {lo hi : Option Int} (h : EvD K lk te ρ (.tf ss)) (hl : EvO K lk tl ρ lo) (hh : EvO K lk th ρ hi) : EvD K lk (tSl (slU K) te tl th) ρ (.tf (cutA ss lo hi)) := fun w0 w σ s Q g =>
  h w0 w σ s _ fun v w1 d l1 ok1 r1 e => hl w0 w1 σ (s.mono l1 ok1) _ fun w2 l2 ok2 => hh w0 w2 σ ((s.mono l1 ok1).mono l2 ok2) _ fun w3 l3 ok3 => by
    subst e
    obtain ⟨a, o, rfl, s1, d1⟩ := r1
    have s3 := (l2.trans l3).I _ _ s1
    refine .inr (.inr ⟨a, _, rfl, sqT_tf ok3 s3, fun z => ?_, fun p o2 hp hd => ?_⟩)
    · rw [List.length_map] at z
      have e : cutA ss lo hi = ss := by
        unfold cutA
        rw [z.1, z.2]
        simp
      rw [e] at g
      exact (g.up ((l1.trans l2).trans l3)).here (d := .tf ss) ok3 ⟨a, o, rfl, s3, d1⟩ rfl
    · have e : cutV (ss.map V.str) lo hi = (cutA ss lo hi).map V.str := cut_map V.str ss lo hi
      rw [e]
      exact new_tf (g.up ((l1.trans l2).trans l3)) ok3 hp hd rfl
theorem eu_toF {ss : List Str} {n : Nat} {th : TE} (h : EvD K lk te ρ (.tf ss)) (hh : EvD K lk th ρ (.int n)) : EvD K lk (tSl (slU K) te tNoPart (tPart th)) ρ (.tf (ss.take n)) := ev_is (eu_slF h eo_none (eo_some hh)) (by rw [cutA_to])
theorem eu_fromF {ss : List Str} {n : Nat} {th : TE} (h : EvD K lk te ρ (.tf ss)) (hh : EvD K lk th ρ (.int n)) : EvD K lk (tSl (slU K) te (tPart th) tNoPart) ρ (.tf (ss.drop n)) := ev_is (eu_slF h (eo_some hh) eo_none) (by rw [cutA_from])
theorem cut_to (xs : List D) (n : Nat) : cutD xs none (some (n : Int)) = xs.take n := by
  unfold cutD
  rw [HT.sIx_none, HT.sIx_nat]
  show xs.take (min n xs.length - 0) = _
  rw [Nat.sub_zero]
  by_cases h : n ≤ xs.length
  · rw [Nat.min_eq_left h]
  · rw [Nat.min_eq_right (by omega), List.take_length, List.take_of_length_le (by omega)]
theorem cut_from (xs : List D) (n : Nat) : cutD xs (some (n : Int)) none = xs.drop n := by
  unfold cutD
  rw [HT.sIx_none, HT.sIx_nat]
  by_cases h : n ≤ xs.length
  · rw [Nat.min_eq_left h, List.take_of_length_le (by rw [List.length_drop]; omega)]
  · rw [Nat.min_eq_right (by omega), Nat.sub_self, List.take_zero, List.drop_eq_nil_of_le (by omega)]
end

/-! ### a def keeps its promise -/
def arS : Ar → Sl
  | .d x => .dat x
  | .tp => .tape
/-- the slots at the entry -/
def startS (n : Nat) (as : List Ar) : List Sl := as.map arS ++ List.replicate (n - as.length) .un
section
variable {K : PySem.W.Frag}
theorem start_at {w : Wd} : ∀ {as : List Ar} {vs : List V} (i : Nat) (s : Sl), ArsOk K w as vs → (as.map arS)[i]? = some s → SlOk K w w s (vs.map some)[i]? ∧ isOwn s = false
  | [], _, i, s, _, h => by simp at h
  | a :: as, _, 0, s, ⟨v, r, e, q, _⟩, h => by
    subst e
    have h : arS a = s := Option.some.inj h
    subst h
    cases a with
    | d x => exact ⟨⟨v, rfl, q⟩, rfl⟩
    | tp => obtain ⟨b, e, t⟩ := q; subst e; exact ⟨⟨b, rfl, t⟩, rfl⟩
  | a :: as, _, i + 1, s, ⟨v, r, e, _, q⟩, h => by
    subst e
    exact start_at i s q h
theorem sr_start {w : Wd} {N : List Str} {as : List Ar} {vs : List V} (ok : w.Ok) (h : ArsOk K w as vs) : Sr K w.lk w w (start N vs) (startS N.length as) := by
  have hl : vs.length = as.length := ars_len h
  have key : ∀ (i : Nat) (s : Sl), (startS N.length as)[i]? = some s → SlOk K w w s (start N vs)[i]? ∧ isOwn s = false := fun i s e => by
    unfold startS at e
    unfold L2.start
    by_cases hi : i < as.length
    · rw [List.getElem?_append_left (by rw [List.length_map]; exact hi)] at e
      rw [List.getElem?_append_left (by rw [List.length_map, hl]; exact hi)]
      exact start_at i s h e
    · rw [List.getElem?_append_right (by rw [List.length_map]; omega)] at e
      have : s = .un := List.eq_of_mem_replicate (List.mem_of_getElem? e)
      subst this
      exact ⟨True.intro, rfl⟩
  refine ⟨rfl, .refl w, ok, ?_, fun i s e => (key i s e).1, fun i j s t a e1 e2 o1 => ?_⟩
  · unfold L2.start startS
    rw [List.length_append, List.length_append, List.length_map, List.length_map, List.length_replicate, List.length_replicate, hl]
  · rw [(key i s e1).2] at o1
    cases o1
/-- what is wanted of a def's body -/
def Fn (R : D → Prop) : Po := { nx := fun _ => R .non, rt := R }
/-- the reading of a promise's body, from what is shown over data -/
theorem sp_run {needs : Bool} {α : Type} {enc : α → List Ar} {pre : α → Prop} {post : α → D → Prop} {t : TS} {N : List Str} (n : Nat) (hn : N.length = n)
    (h : ∀ lk, (needs = true → lk = false) → ∀ x, pre x → StS K lk t (startS n (enc x)) (Fn (post x))) (vs : List V) (H : Hp) (Q : VK) (E : XK) (hs : spP K needs enc pre post vs H Q E) : t { nx := fun _ H' => Q .non H', rt := Q } (L2.start N vs) H := by
  obtain ⟨x, w, rfl, ok, nd, ar, px, g⟩ := hs
  have sr : Sr K w.lk w w (L2.start N vs) (startS n (enc x)) := by rw [← hn]; exact sr_start ok ar
  exact h w.lk nd x px w w _ _ sr ⟨fun σ w' ρ s' q => g .non w' .non s'.le s'.ok rfl q, fun v w' d l ok' r q => g v w' d l ok' r q, fun _ _ _ _ z => z.elim, fun _ _ _ _ z => z.elim⟩
theorem sp_len {needs : Bool} {α : Type} {enc : α → List Ar} {pre : α → Prop} {post : α → D → Prop} {n : Nat} (h : ∀ x, (enc x).length = n) (vs : List V) (H : Hp) (Q : VK) (E : XK) (hs : spP K needs enc pre post vs H Q E) : vs.length = n := by
  obtain ⟨x, w, rfl, ok, nd, ar, px, g⟩ := hs
  rw [ars_len ar, h]
end
/-- a def that may be called: its promise, its name, how its arguments bind -/
structure Cal (P : Program) (w : World) (K : PySem.W.Frag) (mg : Str → Option Value) (base : Heap) (k : Nat) (x : Str) (ps : List Str) (sp : Sp) : Prop where
  ex : ∃ (f : Addr) (fd : FuncData), FnOk P w K mg base CX0 k f fd ps sp ∧ mg x = some (.ref f) ∧ PySem.W.keepIn K (.ref f) = true ∧ Binds K fd ps []
/-- a def as it stands behind the top -/
structure Df (K : PySem.W.Frag) (mg : Str → Option Value) (x : Str) (st : Stmt) : Prop where
  ex : ∃ (f : Addr) (fd : FuncData), FunD K x x (defArgs st) (defBody st) (defScope st) [] [] f fd ∧ mg x = some (.ref f)
theorem Cal.mono {P : Program} {w : World} {K : PySem.W.Frag} {mg : Str → Option Value} {base : Heap} {j k : Nat} {x : Str} {ps : List Str} {sp : Sp} (c : Cal P w K mg base j x ps sp) (h : j ≤ k) : Cal P w K mg base k x ps sp := by
  obtain ⟨f, fd, F, m, kp, b⟩ := c.ex
  exact ⟨f, fd, F.mono h, m, kp, b⟩
/-- THE RULE: a def's body, its reading over data -/
theorem Df.cal {P : Program} {w : World} {K : PySem.W.Frag} {mg : Str → Option Value} {base : Heap} {k : Nat} {x : Str} {st : Stmt} {N ps : List Str} {sp : Sp} {t : TS} (F : Df K mg x st) (S : FnScope N ps (defScope st))
    (hb : ∀ (kV doc pm : Value) (an : Option Addr) (cdv ct : Value) (us : List Value), us.length = ps.length → bindArgs (PySem.W.fnOf x x (defArgs st) (defBody st) (defScope st) .none kV doc pm an cdv ct) ⟨us, []⟩ = pure (ps.zip us))
    (len : ∀ vs H Q E, sp vs H Q E → vs.length = ps.length) (run : ∀ vs H Q E, sp vs H Q E → t { nx := fun _ H' => Q .non H', rt := Q } (L2.start N vs) H)
    (der : ∀ (f : Addr) (cdv : Value) (A : Around) (outer : List Env) (s : Shared) (H : Hp) (E : XK), Room k (A.deeper (PyProof.Rows.envOfC x (defScope st) s.heap.objs.size f cdv)) → PSs (cxOf CX0 P w K mg base N x (defScope st) f cdv A outer s H E).nox (defBody st) t) :
    Cal P w K mg base (k + 1) x ps sp := by
  obtain ⟨f, fd, G, m⟩ := F.ex
  refine ⟨f, fd, ?_, m, G.kp, G.bindsN hb⟩
  exact G.ok S len fun cdv A outer s H vs Q E hr h => ⟨t, (der f cdv A outer s H E hr).nox, run vs H Q E h⟩
/-- a call of such a def -/
theorem pu_call {X : Cx} {k j : Nat} {x : Str} {ps : List Str} {sp : Sp} {p pos : Pos} {e : Expr} {es : List Expr} {t : TA} (C : Cal X.prog X.w X.K X.mg X.base j x ps sp) (hr : Room k X.A) (hj : j ≤ k) (hg : Gl X x) (ha : PA X (e :: es) t) (hx : Passes CX0 X E0)
    (hdb : (x == ("__debug__" : Str)) = false := by decide) (he : starEach (e :: es) X.env = (false, eval e X.env) :: starEach es X.env := by rfl) (hpl : (backTo pos (starEach es X.env)).any (·.1) = false := by rfl) : PE X (.Call (.Name x p) (e :: es) [] pos) (tCall sp [] E0 t) := by
  obtain ⟨f, fd, F, m, kp, b⟩ := C.ex
  exact pe_call F (hr.mono hj) hg m kp b .nil hx ha hdb he hpl
end RF

set_option Elab.async false
set_option linter.all false
set_option maxRecDepth 100000
set_option maxHeartbeats 4000000
set_option autoImplicit false
namespace RF
open PySem L2

/-! ### more readings for whatever kinds -/
def rMulU (K : PySem.W.Frag) : R2 := rI IntMulOk fun i j => .int (i * j)
theorem ou_mul {X : Cx} : OpR X (binaryOp .Mult) (rMulU X.K) := opI fun _ _ _ _ _ _ _ hc q => PyProof.Rows.mul_int q hc
section
variable {K : PySem.W.Frag} {lk : Bool} {ρ : List Sl} {ta tb te : TE} {P : D → Prop} {u : TS} {p : Po} {i j : Int}
theorem eu_mul (ha : EvD K lk ta ρ (.int i)) (hb : EvD K lk tb ρ (.int j)) (h : IntMulOk i j) : EvD K lk (tOp (rMulU K) ta tb) ρ (.int (i * j)) := ev_op2 ha hb (rv_I h fun _ => rfl)
/-- a, b = x, y -/
theorem st_par {i j : Nat} {ta : TA} {a b : D} (h : EvA K lk ta ρ (fun x => x = [.d a, .d b])) (k : p.nx ((ρ.set i (.dat a)).set j (.dat b))) : StS K lk (tPar i j ta) ρ p := fun w0 w σ E s f =>
  h w0 w σ s _ fun vs w1 as l1 ok1 r1 e => by
    subst e
    obtain ⟨v, u, e, rv, ru⟩ := ars_two r1
    exact ⟨v, u, e, f.nx _ w1 _ (((s.mono l1 ok1).set i rv).set j ru) k⟩
theorem st_parq {i j : Nat} {ta : TA} {a b : D} (h : EvA K lk ta ρ (fun x => x = [.d a, .d b])) (k : StS K lk u ((ρ.set i (.dat a)).set j (.dat b)) p) : StS K lk (tSeq (tPar i j ta) u) ρ p :=
  st_seq (fun ρ' => ρ' = (ρ.set i (.dat a)).set j (.dat b)) (st_par h rfl) fun ρ' e => by rw [e]; exact k
theorem st_whileq {tt : TT} {t : TS} (W : Nat → List Sl → Prop) (m0 : Nat) (h0 : W m0 ρ) (M : List Sl → Prop)
    (hs : ∀ m ρ', W m ρ' → ∃ b, EvB K lk tt ρ' b ∧ (b = true → StS K lk t ρ' { nx := fun ρ2 => ∃ m', m' < m ∧ W m' ρ2, ct := fun ρ2 => ∃ m', m' < m ∧ W m' ρ2, bk := M, rt := p.rt }) ∧ (b = false → M ρ')) (hd : ∀ ρ', M ρ' → StS K lk u ρ' p) : StS K lk (tSeq (tWhile tt t) u) ρ p :=
  st_seq M (st_while W m0 h0 hs) hd
end
theorem div_w {i j : Int} {b : Nat} (h : 0 < j) (hb : j.natAbs < 2 ^ b) (h9 : b ≤ 9000) : CDivW i j := by
  rcases Nat.eq_zero_or_pos b with e | e
  · subst e
    have : j.natAbs = 0 := by
      have z : (2 : Nat) ^ 0 = 1 := rfl
      omega
    omega
  · exact wide_div h hb e h9

/-! ### fractions -/
def fD (q : Rat) : D := .tup [.int q.num, .int (q.den : Int)]
def Sm (n : Nat) (q : Rat) : Prop := q.num.natAbs < 2 ^ n ∧ q.den < 2 ^ n
theorem den_pos (q : Rat) : (0 : Int) < (q.den : Int) := by have := q.den_pos; omega
theorem fD_top (q : Rat) : atI [D.int q.num, D.int (q.den : Int)] 0 = some (.int q.num) := rfl
theorem fD_bot (q : Rat) : atI [D.int q.num, D.int (q.den : Int)] 1 = some (.int (q.den : Int)) := rfl
theorem frac_mk (t : Int) (b : Nat) (h : b ≠ 0) : (mkRat t b).num = t / ((t.natAbs.gcd b : Nat) : Int) ∧ (mkRat t b).den = b / t.natAbs.gcd b := by
  unfold mkRat
  rw [dif_neg h]
  have e := Rat.normalize_eq (num := t) h
  exact ⟨congrArg Rat.num e, congrArg Rat.den e⟩
section
variable {K : PySem.W.Frag}
/-! ### fraction -/
abbrev TI2 : Type := Int × Int
def sp_fraction (K : PySem.W.Frag) : Sp := spP K false (fun x : TI2 => [.d (.int x.1), .d (.int x.2)]) (fun x => 0 < x.2 ∧ x.2.natAbs < 2 ^ 5000) (fun x d => d = fD (mkRat x.1 x.2.toNat))
/-- slots: 0 top, 1 bottom, 2 one, 3 other -/
def t_fraction (K : PySem.W.Frag) : TS := (tSeq (tPar 2 3 (tCons (tCB rAbs (tCons (tVar 0) tNil)) (tCons (tVar 1) tNil))) (tSeq (tWhile (tTest (tOp (rNeU K) (tVar 3) (tC (.int 0)))) (tPar 2 3 (tCons (tVar 3) (tCons (tOp rModI (tVar 2) (tVar 3)) tNil)))) (tRet (tTupU (tCons (tOp rDivI (tVar 0) (tVar 2)) (tCons (tOp rDivI (tVar 1) (tVar 2)) tNil))))))
theorem st_fraction (lk : Bool) (x : TI2) (h0 : 0 < x.2) (hb : x.2.natAbs < 2 ^ 5000) : StS K lk (t_fraction K) (startS 4 [.d (.int x.1), .d (.int x.2)]) (Fn fun d => d = fD (mkRat x.1 x.2.toNat)) := by
  obtain ⟨t, b⟩ := x
  dsimp only at h0 hb ⊢
  obtain ⟨n, rfl⟩ : ∃ n : Nat, b = n := ⟨b.toNat, by omega⟩
  have hn : 0 < n := by omega
  have hnb : n < 2 ^ 5000 := by simpa using hb
  refine st_parq (a := .int (t.natAbs : Int)) (b := .int (n : Int)) ?_ ?_
  · refine ea_cons (ev_is (eu_abs (ev_v rfl)) ?_) (ea_cons (ev_v rfl) ea_nil)
    congr 1
    split <;> omega
  · refine st_whileq (fun m ρ => ∃ one : Nat, ρ = [.dat (.int t), .dat (.int (n : Int)), .dat (.int (one : Int)), .dat (.int (m : Int))] ∧ one.gcd m = t.natAbs.gcd n) n ⟨t.natAbs, rfl, rfl⟩
      (fun ρ => ρ = [.dat (.int t), .dat (.int (n : Int)), .dat (.int ((t.natAbs.gcd n : Nat) : Int)), .dat (.int 0)]) (fun m ρ h => ?_) fun ρ e => ?_
    · obtain ⟨one, rfl, hg⟩ := h
      refine ⟨!decide ((m : Int) = 0), et_test (eu_neI (ev_v rfl) ev_int), fun hb => ?_, fun hb => ?_⟩
      · have hm : 0 < m := by
          simp at hb
          omega
        refine st_par (a := .int (m : Int)) (b := .int ((one % m : Nat) : Int)) (ea_cons (ev_v rfl) (ea_cons (ev_is (ev_mod (ev_v rfl) (ev_v rfl) (by omega)) (by simp)) ea_nil)) ?_
        exact ⟨one % m, Nat.mod_lt _ hm, m, rfl, by rw [← hg, Nat.gcd_comm one m, Nat.gcd_rec m one, Nat.gcd_comm]⟩
      · have hm : m = 0 := by
          simp at hb
          omega
        subst hm
        rw [Nat.gcd_zero_right] at hg
        subst hg
        rfl
    · subst e
      have hg0 : 0 < t.natAbs.gcd n := Nat.gcd_pos_of_pos_right _ hn
      have hgl : t.natAbs.gcd n ≤ n := Nat.gcd_le_right _ hn
      have hc : ∀ i : Int, CDivW i ((t.natAbs.gcd n : Nat) : Int) := fun i => div_w (b := 5000) (by omega) (by simp; omega) (by decide)
      refine st_ret (eu_tup (ds := [.int (t / ((t.natAbs.gcd n : Nat) : Int)), .int ((n : Int) / ((t.natAbs.gcd n : Nat) : Int))]) (ea_cons (ev_divW (ev_v rfl) (ev_v rfl) (hc _)) (ea_cons (ev_divW (ev_v rfl) (ev_v rfl) (hc _)) ea_nil))) fun d e => ?_
      show d = _
      obtain ⟨e1, e2⟩ := frac_mk t n (by omega)
      rw [e, show ((n : Int)).toNat = n by omega]
      unfold fD
      rw [e1, e2]
      rfl
theorem run_fraction : ∀ vs H Q E, sp_fraction K vs H Q E → t_fraction K { nx := fun _ H' => Q .non H', rt := Q } (L2.start ["top", "bottom", "one", "other"] vs) H := sp_run 4 rfl fun lk _ x h => st_fraction lk x h.1 h.2
end
end RF

set_option Elab.async false
set_option linter.all false
set_option maxRecDepth 100000
set_option maxHeartbeats 4000000
set_option autoImplicit false
namespace RF
open PySem L2

/-! ### pairs of a dict over data -/
section
variable {κ α : Type} [DecidableEq κ]
def getD' (kvs : List (κ × α)) (k : κ) : Option α := (kvs.find? fun kv => decide (kv.1 = k)).map (·.2)
def putD (kvs : List (κ × α)) (k : κ) (v : α) : List (κ × α) := if (kvs.any fun kv => decide (kv.1 = k)) = true then kvs.map (fun kv => if kv.1 = k then (kv.1, v) else kv) else kvs ++ [(k, v)]
theorem getD'_nil (k : κ) : getD' ([] : List (κ × α)) k = none := rfl
theorem getD'_cons (p : κ × α) (r : List (κ × α)) (k : κ) : getD' (p :: r) k = if p.1 = k then some p.2 else getD' r k := by
  unfold getD'
  rw [List.find?_cons]
  by_cases e : p.1 = k
  · simp [e]
  · simp [e]
theorem any_getD' (k : κ) : ∀ kvs : List (κ × α), (kvs.any fun kv => decide (kv.1 = k)) = (getD' kvs k).isSome
  | [] => rfl
  | p :: r => by
    rw [List.any_cons, any_getD' k r, getD'_cons]
    by_cases e : p.1 = k <;> simp [e]
theorem getD'_append (k : κ) (ys : List (κ × α)) : ∀ xs : List (κ × α), getD' (xs ++ ys) k = (getD' xs k).or (getD' ys k)
  | [] => by simp [getD'_nil]
  | p :: r => by
    rw [List.cons_append, getD'_cons, getD'_cons, getD'_append k ys r]
    by_cases e : p.1 = k <;> simp [e]
theorem getD'_put (kvs : List (κ × α)) (k j : κ) (v : α) : getD' (putD kvs k v) j = if j = k then some v else getD' kvs j := by
  unfold putD
  rw [any_getD']
  cases h : getD' kvs k with
  | none =>
    rw [if_neg (by simp), getD'_append, getD'_cons, getD'_nil]
    by_cases e : j = k
    · subst e; simp [h]
    · have : ¬ k = j := fun z => e z.symm
      simp [e, this]
  | some w =>
    rw [if_pos (by rfl)]
    have key : ∀ l : List (κ × α), getD' (l.map fun kv => if kv.1 = k then (kv.1, v) else kv) j = if j = k then (getD' l j).map (fun _ => v) else getD' l j := fun l => by
      induction l with
      | nil => simp [getD'_nil]
      | cons p r ih =>
        rw [List.map_cons, getD'_cons, getD'_cons, ih]
        by_cases e : p.1 = k
        · rw [if_pos e]
          by_cases e2 : j = k
          · subst e2; simp [e]
          · have : ¬ p.1 = j := fun z => e2 (z.symm.trans e)
            simp [this, e2]
        · rw [if_neg e]
          by_cases e2 : j = k
          · subst e2; simp [e]
          · by_cases e3 : p.1 = j <;> simp [e2, e3]
    rw [key]
    by_cases e : j = k
    · subst e; simp [h]
    · simp [e]
theorem keys_put (kvs : List (κ × α)) (k : κ) (v : α) : (putD kvs k v).map (·.1) = if k ∈ kvs.map (·.1) then kvs.map (·.1) else kvs.map (·.1) ++ [k] := by
  unfold putD
  have e : (kvs.any fun kv => decide (kv.1 = k)) = decide (k ∈ kvs.map (·.1)) := by
    rw [Bool.eq_iff_iff, List.any_eq_true, decide_eq_true_iff, List.mem_map]
    constructor
    · rintro ⟨p, hp, z⟩; exact ⟨p, hp, of_decide_eq_true z⟩
    · rintro ⟨p, hp, z⟩; exact ⟨p, hp, decide_eq_true z⟩
  rw [e]
  by_cases h : k ∈ kvs.map (·.1)
  · rw [if_pos (decide_eq_true h), if_pos h, List.map_map]
    congr 1
    funext p
    show (if p.1 = k then (p.1, v) else p).1 = p.1
    split <;> rfl
  · rw [if_neg (by rw [decide_eq_false h]; decide), if_neg h, List.map_append]
    rfl
theorem nodup_put {kvs : List (κ × α)} (h : (kvs.map (·.1)).Nodup) (k : κ) (v : α) : ((putD kvs k v).map (·.1)).Nodup := by
  rw [keys_put]
  split
  · exact h
  · rename_i hk
    rw [List.nodup_append]
    refine ⟨h, by simp, fun a ha b hb => ?_⟩
    rw [List.mem_singleton.mp hb]
    exact fun e => hk (e ▸ ha)
theorem length_put (kvs : List (κ × α)) (k : κ) (v : α) : (putD kvs k v).length ≤ kvs.length + 1 := by
  unfold putD
  split
  · rw [List.length_map]; exact Nat.le_succ _
  · rw [List.length_append]; exact Nat.le_refl _
end
section
variable {K : PySem.W.Frag} {I : Hp}
theorem RpK.length : ∀ {ds : List (Key × D)} {vs : List (Key × V)}, RpK K I ds vs → vs.length = ds.length
  | [], _, r => by rw [show _ = [] from r]; rfl
  | (k, d) :: ds, _, ⟨x, t, e, r, q⟩ => by rw [e, List.length_cons, List.length_cons, RpK.length q]
theorem RpT.length : ∀ {ds : List (List Key × D)} {vs : List (List Key × V)}, RpT K I ds vs → vs.length = ds.length
  | [], _, r => by rw [show _ = [] from r]; rfl
  | (k, d) :: ds, _, ⟨x, t, e, r, q⟩ => by rw [e, List.length_cons, List.length_cons, RpT.length q]
theorem RpK.keys : ∀ {ds : List (Key × D)} {vs : List (Key × V)}, RpK K I ds vs → vs.map (·.1) = ds.map (·.1)
  | [], _, r => by rw [show _ = [] from r]; rfl
  | (k, d) :: ds, _, ⟨x, t, e, r, q⟩ => by rw [e, List.map_cons, List.map_cons, RpK.keys q]
theorem RpT.keys : ∀ {ds : List (List Key × D)} {vs : List (List Key × V)}, RpT K I ds vs → vs.map (·.1) = ds.map (·.1)
  | [], _, r => by rw [show _ = [] from r]; rfl
  | (k, d) :: ds, _, ⟨x, t, e, r, q⟩ => by rw [e, List.map_cons, List.map_cons, RpT.keys q]
theorem RpK.get (k : Key) : ∀ {ds : List (Key × D)} {vs : List (Key × V)}, RpK K I ds vs → (getD' ds k = none ∧ valV vs k = none) ∨ ∃ d v, getD' ds k = some d ∧ valV vs k = some v ∧ Rp K I d v
  | [], _, r => by rw [show _ = [] from r]; exact .inl ⟨rfl, rfl⟩
  | (j, d) :: ds, _, ⟨x, t, e, r, q⟩ => by
    subst e
    rw [getD'_cons]
    by_cases z : j = k
    · rw [if_pos z, valV_pos z]; exact .inr ⟨d, x, rfl, rfl, r⟩
    · rw [if_neg z, valV_neg z]; exact RpK.get k q
theorem RpT.get (k : List Key) : ∀ {ds : List (List Key × D)} {vs : List (List Key × V)}, RpT K I ds vs → (getD' ds k = none ∧ valV vs k = none) ∨ ∃ d v, getD' ds k = some d ∧ valV vs k = some v ∧ Rp K I d v
  | [], _, r => by rw [show _ = [] from r]; exact .inl ⟨rfl, rfl⟩
  | (j, d) :: ds, _, ⟨x, t, e, r, q⟩ => by
    subst e
    rw [getD'_cons]
    by_cases z : j = k
    · rw [if_pos z, valV_pos z]; exact .inr ⟨d, x, rfl, rfl, r⟩
    · rw [if_neg z, valV_neg z]; exact RpT.get k q
theorem RpK.map_put {k : Key} {d : D} {v : V} (h : Rp K I d v) : ∀ {ds : List (Key × D)} {vs : List (Key × V)}, RpK K I ds vs → RpK K I (ds.map fun kv => if kv.1 = k then (kv.1, d) else kv) (vs.map fun kv => if kv.1 = k then (kv.1, v) else kv)
  | [], _, r => by rw [show _ = [] from r]; exact rfl
  | (j, e) :: ds, _, ⟨x, t, z, r, q⟩ => by
    subst z
    by_cases c : j = k
    · rw [List.map_cons, List.map_cons]; simp only [c, if_true]; exact ⟨v, _, rfl, h, RpK.map_put h q⟩
    · rw [List.map_cons, List.map_cons]; simp only [c, if_false]; exact ⟨x, _, rfl, r, RpK.map_put h q⟩
theorem RpT.map_put {k : List Key} {d : D} {v : V} (h : Rp K I d v) : ∀ {ds : List (List Key × D)} {vs : List (List Key × V)}, RpT K I ds vs → RpT K I (ds.map fun kv => if kv.1 = k then (kv.1, d) else kv) (vs.map fun kv => if kv.1 = k then (kv.1, v) else kv)
  | [], _, r => by rw [show _ = [] from r]; exact rfl
  | (j, e) :: ds, _, ⟨x, t, z, r, q⟩ => by
    subst z
    by_cases c : j = k
    · rw [List.map_cons, List.map_cons]; simp only [c, if_true]; exact ⟨v, _, rfl, h, RpT.map_put h q⟩
    · rw [List.map_cons, List.map_cons]; simp only [c, if_false]; exact ⟨x, _, rfl, r, RpT.map_put h q⟩
theorem RpK.snoc {k : Key} {d : D} {v : V} (h : Rp K I d v) : ∀ {ds : List (Key × D)} {vs : List (Key × V)}, RpK K I ds vs → RpK K I (ds ++ [(k, d)]) (vs ++ [(k, v)])
  | [], _, r => by rw [show _ = [] from r]; exact ⟨v, [], rfl, h, rfl⟩
  | (j, e) :: ds, _, ⟨x, t, z, r, q⟩ => ⟨x, _, by rw [z]; rfl, r, RpK.snoc h q⟩
theorem RpT.snoc {k : List Key} {d : D} {v : V} (h : Rp K I d v) : ∀ {ds : List (List Key × D)} {vs : List (List Key × V)}, RpT K I ds vs → RpT K I (ds ++ [(k, d)]) (vs ++ [(k, v)])
  | [], _, r => by rw [show _ = [] from r]; exact ⟨v, [], rfl, h, rfl⟩
  | (j, e) :: ds, _, ⟨x, t, z, r, q⟩ => ⟨x, _, by rw [z]; rfl, r, RpT.snoc h q⟩
theorem RpK.put {k : Key} {d : D} {v : V} {ds : List (Key × D)} {vs : List (Key × V)} (q : RpK K I ds vs) (h : Rp K I d v) : RpK K I (putD ds k d) (putK vs k v) := by
  unfold putD putK
  rw [any_getD', valV_any]
  rcases q.get k with ⟨e1, e2⟩ | ⟨e, u, e1, e2, _⟩
  · rw [e1, e2, if_neg (by simp), if_neg (by simp)]; exact q.snoc h
  · rw [e1, e2, if_pos (by rfl), if_pos (by rfl)]; exact q.map_put h
theorem RpT.put {k : List Key} {d : D} {v : V} {ds : List (List Key × D)} {vs : List (List Key × V)} (q : RpT K I ds vs) (h : Rp K I d v) : RpT K I (putD ds k d) (putK vs k v) := by
  unfold putD putK
  rw [any_getD', valV_any]
  rcases q.get k with ⟨e1, e2⟩ | ⟨e, u, e1, e2, _⟩
  · rw [e1, e2, if_neg (by simp), if_neg (by simp)]; exact q.snoc h
  · rw [e1, e2, if_pos (by rfl), if_pos (by rfl)]; exact q.map_put h
theorem kD_inj {I J : Hp} {k : Key} {v : V} (h : Rp K I (kD k) v) : v = kV k := by cases k <;> exact h
end

/-! ### dicts over data -/
section
variable {K : PySem.W.Frag} {lk : Bool} {ρ : List Sl} {ta tb te : TE} {P : D → Prop} {u : TS} {p : Po} {d : D}
theorem dget_k {w : Wd} (ok : w.Ok) {kvs : List (Key × D)} {v : V} {k : Key} (r : Rp K w.I (.dk kvs) v) : ∃ a o, v = .ref a ∧ DGet w.H a (kV k) o ∧ ((getD' kvs k = none ∧ o = none) ∨ ∃ d z, getD' kvs k = some d ∧ o = some z ∧ Rp K w.I d z) := by
  obtain ⟨a, es, e, rd, r⟩ := r
  exact ⟨a, valV es k, e, .inl ⟨es, k, rd_same ok.sub rd, rfl, rfl⟩, r.get k⟩
theorem dget_t {w : Wd} (ok : w.Ok) {kvs : List (List Key × D)} {v y : V} {k : List Key} (r : Rp K w.I (.dt kvs) v) (ry : Rp K w.I (.tk k) y) : ∃ a o, v = .ref a ∧ DGet w.H a y o ∧ ((getD' kvs k = none ∧ o = none) ∨ ∃ d z, getD' kvs k = some d ∧ o = some z ∧ Rp K w.I d z) := by
  obtain ⟨a, es, e, rd, r⟩ := r
  obtain ⟨b, rfl, hb⟩ := ry
  exact ⟨a, valV es k, e, .inr ⟨es, k, b, rd_same ok.sub rd, rfl, ok.sub _ _ hb, rfl⟩, r.get k⟩
/-- d[k], there -/
theorem eu_dget {kvs : List (Key × D)} {k : Key} (ha : EvD K lk ta ρ (.dk kvs)) (hb : EvD K lk tb ρ (kD k)) (h : getD' kvs k = some d) : EvD K lk (rIxU K ta tb) ρ d := ev_r (ev_r fun w0 w σ s Q g =>
  ha w0 w σ s _ fun v w1 x l1 ok1 r1 e => hb w0 w1 σ (s.mono l1 ok1) _ fun y w2 x2 l2 ok2 r2 e2 => by
    subst e e2
    obtain ⟨a, o, ev, dg, c⟩ := dget_k (k := k) ok2 (r1.mono l2.I)
    rcases c with ⟨c, _⟩ | ⟨d', z, c, ez, rz⟩
    · rw [h] at c; cases c
    · rw [h] at c
      cases c
      subst ez
      rw [kD_inj (J := w2.I) r2]
      exact ⟨a, z, ev, dg, (g.up (l1.trans l2)).here ok2 rz rfl⟩)
theorem eu_dgetT {kvs : List (List Key × D)} {k : List Key} (ha : EvD K lk ta ρ (.dt kvs)) (hb : EvD K lk tb ρ (.tk k)) (h : getD' kvs k = some d) : EvD K lk (rIxU K ta tb) ρ d := ev_r (ev_r fun w0 w σ s Q g =>
  ha w0 w σ s _ fun v w1 x l1 ok1 r1 e => hb w0 w1 σ (s.mono l1 ok1) _ fun y w2 x2 l2 ok2 r2 e2 => by
    subst e e2
    obtain ⟨a, o, ev, dg, c⟩ := dget_t ok2 (r1.mono l2.I) r2
    rcases c with ⟨c, _⟩ | ⟨d', z, c, ez, rz⟩
    · rw [h] at c; cases c
    · rw [h] at c
      cases c
      subst ez
      exact ⟨a, z, ev, dg, (g.up (l1.trans l2)).here ok2 rz rfl⟩)
/-! ### a dict of the frame's own -/
theorem st_newK {i : Nat} (k : StS K lk u (ρ.set i (.dk [])) p) : StS K lk (tSeq (tAsg (eOr tDNewK tDNewT) (gName i)) u) ρ p := fun w0 w σ E s f => .inl fun a ha =>
  k w0 (w.put a (.dK [])) _ E (s.grow i True.intro ha ⟨s.le.dom a ha, notI s.ok ha, not_tape s.ok ha, [], upd_same, rfl⟩) f
theorem st_newT {i : Nat} (k : StS K lk u (ρ.set i (.dt [])) p) : StS K lk (tSeq (tAsg (eOr tDNewK tDNewT) (gName i)) u) ρ p := fun w0 w σ E s f => .inr fun a ha =>
  k w0 (w.put a (.dT [])) _ E (s.grow i True.intro ha ⟨s.le.dom a ha, notI s.ok ha, not_tape s.ok ha, [], upd_same, rfl⟩) f
def tsOr (t v : TS) : TS := fun E σ H => t E σ H ∨ v E σ H
theorem psor {X : Cx} {st : Stmt} {t v : TS} (h : PS X st t) (k : PS X st v) : PS X st (tsOr t v) := ⟨fun pins s σ H E I z => z.elim (h.run pins s σ H E I) (k.run pins s σ H E I)⟩
/-- o[i] = e -/
def sPutU (to ti tv : TE) : TS := tsOr (tAsg tv (gSub to ti rSetL)) (sDPut to ti tv)
/-- d[k] = e, d the frame's own -/
theorem st_putK {i : Nat} {kvs : List (Key × D)} {k : Key} (hi : ρ[i]? = some (.dk kvs)) (hk : EvD K lk tb ρ (kD k)) (h : EvS K lk te ρ P) (hl : kvs.length < 100000) (q : ∀ d, P d → p.nx (ρ.set i (.dk (putD kvs k d)))) : StS K lk (sPutU (tVar i) tb te) ρ p := fun w0 w σ E s f => .inr
  (h w0 w σ s _ fun v w1 d l1 ok1 r1 c => by
    have s1 := s.mono l1 ok1
    obtain ⟨a, ea, _⟩ := s1.sl i _ hi
    refine ⟨.ref a, ea, hk w0 w1 σ s1 _ fun y w2 x2 l2 ok2 r2 e2 => ?_⟩
    subst e2
    have s2 := s1.mono l2 ok2
    obtain ⟨a', ea', h0, hI, ht, es, hH, r⟩ := s2.sl i _ hi
    rw [ea] at ea'
    cases ea'
    rw [kD_inj (J := w2.I) r2]
    refine ⟨a, upd w2.H a (.dK (putK es k v)), rfl, .inl ⟨es, k, hH, rfl, by rw [r.length]; exact Nat.lt_trans hl (by decide), rfl⟩, ?_⟩
    exact f.nx σ (w2.put a (.dK (putK es k v))) _ (s2.own (t := .dk (putD kvs k d)) hi rfl ea _ True.intro ⟨h0, hI, ht, _, upd_same, r.put (r1.mono l2.I)⟩) (q d c))
theorem st_putT {i : Nat} {kvs : List (List Key × D)} {k : List Key} (hi : ρ[i]? = some (.dt kvs)) (hk : EvD K lk tb ρ (.tk k)) (h : EvS K lk te ρ P) (hl : kvs.length < 100000) (q : ∀ d, P d → p.nx (ρ.set i (.dt (putD kvs k d)))) : StS K lk (sPutU (tVar i) tb te) ρ p := fun w0 w σ E s f => .inr
  (h w0 w σ s _ fun v w1 d l1 ok1 r1 c => by
    have s1 := s.mono l1 ok1
    obtain ⟨a, ea, _⟩ := s1.sl i _ hi
    refine ⟨.ref a, ea, hk w0 w1 σ s1 _ fun y w2 x2 l2 ok2 r2 e2 => ?_⟩
    subst e2
    have s2 := s1.mono l2 ok2
    obtain ⟨a', ea', h0, hI, ht, es, hH, r⟩ := s2.sl i _ hi
    rw [ea] at ea'
    cases ea'
    obtain ⟨b, rfl, hb⟩ := r2
    refine ⟨a, upd w2.H a (.dT (putK es k v)), rfl, .inr ⟨es, k, b, hH, rfl, ok2.sub _ _ hb, by rw [r.length]; exact Nat.lt_trans hl (by decide), rfl⟩, ?_⟩
    exact f.nx σ (w2.put a (.dT (putK es k v))) _ (s2.own (t := .dt (putD kvs k d)) hi rfl ea _ True.intro ⟨h0, hI, ht, _, upd_same, r.put (r1.mono l2.I)⟩) (q d c))
/-- return d, d the frame's own -/
theorem st_retK {i : Nat} {xs : List (Key × D)} (hi : ρ[i]? = some (.dk xs)) (k : p.rt (.dk xs)) : StS K lk (tRet (tVar i)) ρ p := fun w0 w σ E s f => by
  obtain ⟨a, ea, h0, hI, ht, vs, hH, r⟩ := s.sl i _ hi
  refine ⟨.ref a, ea, f.rt (.ref a) (w.fix a (.dK vs)) (.dk xs) (Wd.le_fix s.le h0 hI) (Wd.fix_ok s.ok hI hH ht) ?_ k⟩
  exact ⟨a, vs, rfl, .inl upd_same, r.keeps (.of_same (same_new hI))⟩
end
end RF

set_option Elab.async false
set_option linter.all false
set_option autoImplicit false
namespace RF
open PySem
/-! ### texts in order -/
def leS (a b : Str) : Bool := !decide (b.cps.toList < a.cps.toList)
def ltS (a b : Str) : Prop := a.cps.toList < b.cps.toList
instance (a b : Str) : Decidable (ltS a b) := inferInstanceAs (Decidable (_ < _))
theorem str_ext {a b : Str} (h : a.cps.toList = b.cps.toList) : a = b := by
  cases a; cases b
  simp at h
  rw [h]
theorem ltS_irrefl (a : Str) : ¬ ltS a a := List.lt_irrefl _
theorem ltS_trans {a b c : Str} (h : ltS a b) (k : ltS b c) : ltS a c := List.lt_trans h k
theorem ltS_total (a b : Str) : ltS a b ∨ a = b ∨ ltS b a := by
  by_cases h1 : a.cps.toList < b.cps.toList
  · exact .inl h1
  · by_cases h2 : b.cps.toList < a.cps.toList
    · exact .inr (.inr h2)
    · exact .inr (.inl (str_ext (List.le_antisymm (List.not_lt.mp h2) (List.not_lt.mp h1))))
theorem leS_iff {a b : Str} : leS a b = true ↔ ¬ ltS b a := by
  unfold leS ltS
  simp
theorem leS_trans (a b c : Str) (h : leS a b = true) (k : leS b c = true) : leS a c = true := by
  rw [leS_iff] at *
  intro z
  rcases ltS_total a b with x | x | x
  · exact k (ltS_trans z x)
  · subst x; exact k z
  · exact h x
theorem leS_total (a b : Str) : (leS a b || leS b a) = true := by
  rw [Bool.or_eq_true, leS_iff, leS_iff]
  rcases ltS_total a b with x | x | x
  · exact .inl fun z => ltS_irrefl _ (ltS_trans x z)
  · subst x; exact .inl (ltS_irrefl _)
  · exact .inr fun z => ltS_irrefl _ (ltS_trans x z)
theorem leS_anti {a b : Str} (h : leS a b = true) (k : leS b a = true) : a = b := by
  rw [leS_iff] at *
  rcases ltS_total a b with x | x | x
  · exact absurd x k
  · exact x
  · exact absurd x h
def sortS (xs : List Str) : List Str := xs.mergeSort leS
theorem sortS_perm (xs : List Str) : (sortS xs).Perm xs := List.mergeSort_perm xs leS
theorem sortS_sorted (xs : List Str) : (sortS xs).Pairwise fun a b => leS a b = true := List.pairwise_mergeSort leS_trans leS_total xs
theorem rising_pw : ∀ (p : Str) (xs : List Str), PyProof.Rows.risingS p xs = true → (p :: xs).Pairwise fun a b => leS a b = true
  | p, [], _ => by simp
  | p, x :: r, h => by
    have h : (!PySem.Spec.ltCps x.cps.toList p.cps.toList && PyProof.Rows.risingS x r) = true := h
    rw [Bool.and_eq_true] at h
    have ih := rising_pw x r h.2
    have hp : leS p x = true := by
      unfold leS
      have e := h.1
      rw [PyProof.Rows.ltCps_eq] at e
      exact e
    rw [List.pairwise_cons]
    refine ⟨fun a ha => ?_, ih⟩
    rcases List.mem_cons.mp ha with z | z
    · rw [z]; exact hp
    · exact leS_trans _ _ _ hp ((List.pairwise_cons.mp ih).1 a z)
theorem sorted_pw {xs : List Str} (h : PyProof.Rows.sortedS xs = true) : xs.Pairwise fun a b => leS a b = true := by
  cases xs with
  | nil => exact .nil
  | cons x r => exact rising_pw x r h
/-- two lists in order with the same items are one -/
theorem pw_unique : ∀ {xs ys : List Str}, xs.Perm ys → xs.Pairwise (fun a b => leS a b = true) → ys.Pairwise (fun a b => leS a b = true) → xs = ys
  | [], ys, h, _, _ => (List.nil_perm.mp h).symm
  | x :: xs, [], h, _, _ => absurd (List.perm_nil.mp h) (by simp)
  | x :: xs, y :: ys, h, h1, h2 => by
    have e : x = y := by
      have hx : x ∈ y :: ys := h.mem_iff.mp (by simp)
      have hy : y ∈ x :: xs := h.mem_iff.mpr (by simp)
      rcases List.mem_cons.mp hx with z | z
      · exact z
      · rcases List.mem_cons.mp hy with z' | z'
        · exact z'.symm
        · exact leS_anti ((List.pairwise_cons.mp h1).1 y z') ((List.pairwise_cons.mp h2).1 x z)
    subst e
    rw [pw_unique (List.Perm.cons_inv h) (List.pairwise_cons.mp h1).2 (List.pairwise_cons.mp h2).2]
theorem sortS_unique {xs ys : List Str} (h : ys.Perm xs) (h1 : PyProof.Rows.sortedS ys = true) : ys = sortS xs := pw_unique (h.trans (sortS_perm xs).symm) (sorted_pw h1) (sortS_sorted xs)
end RF

set_option Elab.async false
set_option linter.all false
set_option maxRecDepth 100000
set_option maxHeartbeats 4000000
set_option autoImplicit false
namespace RF
open PySem L2

section
variable {K : PySem.W.Frag} {lk : Bool} {ρ : List Sl} {ta tb te tk tv : TE} {P : D → Prop} {g g1 : TG} {wi wi1 : TI} {d : D}
/-! ### {k: v for .. in .. for .. in ..}, the keys ints or texts -/
def dFold {κ α : Type} [DecidableEq κ] (v : α) (acc : List (κ × α)) (ks : List κ) : List (κ × α) := ks.foldl (fun a k => putD a k v) acc
theorem dFold_len {κ α : Type} [DecidableEq κ] (v : α) : ∀ (ks : List κ) (acc : List (κ × α)), (dFold v acc ks).length ≤ acc.length + ks.length
  | [], acc => Nat.le_refl _
  | k :: ks, acc => by
    have h := dFold_len v ks (putD acc k v)
    have h2 := length_put acc k v
    show (dFold v (putD acc k v) ks).length ≤ acc.length + (ks.length + 1)
    omega
theorem dFold_append {κ α : Type} [DecidableEq κ] (v : α) (acc : List (κ × α)) (a b : List κ) : dFold v acc (a ++ b) = dFold v (dFold v acc a) b := by unfold dFold; rw [List.foldl_append]
theorem take_succ_of {α : Type} {xs : List α} {i : Nat} {x : α} (h : xs[i]? = some x) : xs.take (i + 1) = xs.take i ++ [x] := by rw [List.take_add_one, h]; rfl
theorem ev_dc2K {js js1 vs vs1 : List Nat} {xs : List D} (hi : ItS K lk wi ρ (fun ys => ys = xs)) (ks : D → List Key) (val : D) (hl : (xs.flatMap ks).length ≤ 100000) (hj : ∀ j ∈ js, j ∈ vs) (hj1 : ∀ j ∈ js1, j ∈ vs1)
    (turn : ∀ x ∈ xs, ∃ ρ2 ys, TgS K lk g js x (wipeS ρ vs) ρ2 ∧ ItS K lk wi1 ρ2 (fun zs => zs = ys) ∧ ys.length = (ks x).length ∧
      ∀ (j : Nat) (y : D) (k : Key), ys[j]? = some y → (ks x)[j]? = some k → ∃ ρ3, TgS K lk g1 js1 y (wipeS ρ2 vs1) ρ3 ∧ EvD K lk tk ρ3 (kD k) ∧ EvD K lk tv ρ3 val) :
    EvD K lk (tDc2 wi g wi1 g1 tk tv vs vs1) ρ (.dk (dFold val [] (xs.flatMap ks))) := fun w0 w σ s Q gq => ⟨true, hi w0 w σ s _ fun J w1 xs' l1 ok1 hX Y Dl hD => by
    have hX : xs' = xs := hX
    subst hX
    have s1 := s.mono l1 ok1
    have tpD : w1.tp ≠ some Dl := not_tape ok1 hD
    have hDI : w1.I Dl = none := notI ok1 hD
    -- what holds of the dict and the world: kvs its pairs
    let Ok : List (Key × D) → Wd → Prop := fun kvs w' => w1.le w' ∧ w'.Ok ∧ w'.I Dl = none ∧ ∃ es, w'.H Dl = some (.dK es) ∧ RpK K w'.I kvs es
    have okUp : ∀ {kvs w' wa}, Ok kvs w' → w'.le wa → wa.Ok → Ok kvs wa := fun {kvs w' wa} o la oka => by
      obtain ⟨o1, o2, o3, es, o4, o5⟩ := o
      exact ⟨o1.trans la, oka, la.fr Dl o3 (by rw [o4]; exact fun z => nomatch z), es, la.H Dl _ o4 (by rw [o1.tp]; exact tpD), o5.keeps (.of_same la.I)⟩
    refine ⟨fun i m H' => m = xs'.length - i ∧ i ≤ xs'.length ∧ ∃ w', w'.H = H' ∧ Ok (dFold val [] ((xs'.take i).flatMap ks)) w',
      ⟨xs'.length, by simp, Nat.zero_le _, w1.put Dl (.dK []), rfl, Wd.le_put (.refl w1) hD, Wd.put_ok ok1 hDI tpD True.intro, hDI, [], upd_same, rfl⟩, ?_⟩
    rintro i m H' ⟨rfl, hle, w', rfl, okw⟩
    by_cases hlt : i < xs'.length
    · have hx : xs'[i]? = some xs'[i] := List.getElem?_eq_getElem hlt
      obtain ⟨ρ2, ys, tg, hi1, hlen, trn⟩ := turn xs'[i] (List.getElem_mem hlt)
      refine .inr ⟨Y.go i w' okw.2.1 okw.1.I hlt, fun H2 => ∃ w2, w2.H = H2 ∧ Ok (dFold val [] ((xs'.take (i + 1)).flatMap ks)) w2, fun H2 ⟨w2, e2, q⟩ => ⟨xs'.length - (i + 1), by omega, rfl, hlt, w2, e2, q⟩, fun v H2 y => ?_⟩
      obtain ⟨w2, rfl, l2, ok2, r2⟩ := Y.yld i w' v H2 okw.2.1 okw.1.I y _ hx
      have o2 := okUp okw l2 ok2
      have sw2 := (s1.mono o2.1 ok2).wipe vs
      refine tg w0 w2 _ v sw2 r2 _ fun σ3 st3 sb => ⟨wipe_same sb hj, hi1 w0 w2 σ3 (st3 w2 sw2 (Same.refl _)) _ fun J1 w3 ys' l3 ok3 hY Y1 => ?_⟩
      have hY : ys' = ys := hY
      subst hY
      have o3 := okUp o2 l3 ok3
      refine ⟨fun j k H4 => k = ys'.length - j ∧ j ≤ ys'.length ∧ ∃ w4, w4.H = H4 ∧ Same w3.I w4.I ∧ Ok (dFold val (dFold val [] ((xs'.take i).flatMap ks)) ((ks xs'[i]).take j)) w4, ⟨ys'.length, by simp, Nat.zero_le _, w3, rfl, Same.refl _, o3⟩, ?_⟩
      rintro j k H4 ⟨rfl, hjle, w4, rfl, sm4, o4⟩
      by_cases hjl : j < ys'.length
      · have hy : ys'[j]? = some ys'[j] := List.getElem?_eq_getElem hjl
        have hjk : j < (ks xs'[i]).length := by omega
        have hk : (ks xs'[i])[j]? = some (ks xs'[i])[j] := List.getElem?_eq_getElem hjk
        obtain ⟨ρ3, tg1, ek, ev⟩ := trn j _ _ hy hk
        refine .inr ⟨Y1.go j w4 o4.2.1 sm4 hjl, fun H5 => ∃ w5, w5.H = H5 ∧ Same w3.I w5.I ∧ Ok (dFold val (dFold val [] ((xs'.take i).flatMap ks)) ((ks xs'[i]).take (j + 1))) w5, fun H5 ⟨w5, e5, sm5, q⟩ => ⟨ys'.length - (j + 1), by omega, rfl, hjl, w5, e5, sm5, q⟩, fun v1 H5 y1 => ?_⟩
        obtain ⟨w5, rfl, l5, ok5, r5⟩ := Y1.yld j w4 v1 H5 o4.2.1 sm4 y1 _ hy
        have o5 := okUp o4 l5 ok5
        have sm25 : Same w2.I w5.I := (l3.I.trans sm4).trans l5.I
        have s5 := (st3 w5 ((s1.mono o5.1 ok5).wipe vs) sm25).wipe vs1
        refine tg1 w0 w5 _ v1 s5 r5 _ fun σ6 st6 sb6 => ⟨wipe_same sb6 hj1, ?_⟩
        have s6 := st6 w5 s5 (Same.refl _)
        refine ek w0 w5 σ6 s6 _ fun kv w7 kd l7 ok7 r7 ekd => ev w0 w7 σ6 (s6.mono l7 ok7) _ fun vv w8 vd l8 ok8 r8 evd => ?_
        subst ekd evd
        have o8 := okUp (okUp o5 l7 ok7) l8 ok8
        obtain ⟨p1, p2, p3, es, p4, p5⟩ := o8
        have ekv : kv = kV (ks xs'[i])[j] := kD_inj (J := w7.I) r7
        subst ekv
        have hlen8 : es.length < sizeLine := by
          rw [p5.length]
          have h1 := dFold_len vd ((ks xs'[i]).take j) (dFold vd [] ((xs'.take i).flatMap ks))
          have h2 := dFold_len vd ((xs'.take i).flatMap ks) []
          have h3 : ((xs'.take i).flatMap ks).length + (ks xs'[i]).length ≤ (xs'.flatMap ks).length := by
            have e : (xs'.take (i + 1)).flatMap ks = (xs'.take i).flatMap ks ++ ks xs'[i] := by rw [take_succ_of hx, List.flatMap_append]; simp
            have e2 : xs'.flatMap ks = (xs'.take (i + 1)).flatMap ks ++ (xs'.drop (i + 1)).flatMap ks := by rw [← List.flatMap_append, List.take_append_drop]
            rw [e2, e, List.length_append, List.length_append]
            omega
          have h4 : ((ks xs'[i]).take j).length ≤ (ks xs'[i]).length := by rw [List.length_take]; omega
          have h5 : ([] : List (Key × D)).length = 0 := rfl
          exact Nat.lt_of_le_of_lt (show _ ≤ 100000 by omega) (by decide)
        refine ⟨_, .inl ⟨es, (ks xs'[i])[j], p4, rfl, hlen8, rfl⟩, w8.put Dl (.dK (putK es (ks xs'[i])[j] vv)), rfl, ((sm4.trans l5.I).trans l7.I).trans l8.I, Wd.le_put p1 hD, Wd.put_ok p2 p3 (by rw [p1.tp]; exact tpD) True.intro, p3, _, upd_same, ?_⟩
        have e : dFold vd (dFold vd [] ((xs'.take i).flatMap ks)) ((ks xs'[i]).take (j + 1)) = putD (dFold vd (dFold vd [] ((xs'.take i).flatMap ks)) ((ks xs'[i]).take j)) (ks xs'[i])[j] vd := by
          rw [take_succ_of hk, dFold_append]
          rfl
        rw [e]
        exact p5.put r8
      · have ej : j = ys'.length := by omega
        subst ej
        refine .inl ⟨Y1.stop w4 o4.2.1 sm4, w4, rfl, ?_⟩
        have e : dFold val [] ((xs'.take (i + 1)).flatMap ks) = dFold val (dFold val [] ((xs'.take i).flatMap ks)) ((ks xs'[i]).take ys'.length) := by
          rw [take_succ_of hx, List.flatMap_append, dFold_append, hlen, List.take_length]
          simp
        rw [e]
        exact o4
    · have e : i = xs'.length := by omega
      subst e
      obtain ⟨o1, o2, o3, es, o4, o5⟩ := okw
      rw [List.take_length] at o5
      refine .inl ⟨Y.stop w' o2 o1.I, gq (.ref Dl) (w'.fix Dl (.dK es)) _ (Wd.le_fix (l1.trans o1) (l1.dom Dl hD) o3) (Wd.fix_ok o2 o3 o4 (by rw [o1.tp]; exact tpD)) ?_ rfl⟩
      exact ⟨Dl, es, rfl, .inl upd_same, o5.keeps (.of_same (same_new o3))⟩⟩
end
end RF

set_option Elab.async false
set_option linter.all false
set_option maxRecDepth 100000
set_option maxHeartbeats 4000000
set_option autoImplicit false
namespace RF
open PySem L2

section
variable {K : PySem.W.Frag} {lk : Bool} {ρ : List Sl} {ta tb te tk tv : TE} {P : D → Prop} {g g1 : TG} {wi wi1 : TI} {d : D}
/-! ### sorted -/
theorem rc_sortedD {kvs : List (Key × D)} {ks : List Str} (h : kvs.map (·.1) = ks.map Sum.inr) (hl : ks.length < 64) (w : Wd) (ok : w.Ok) (v : V) (r : ∃ a es, v = .ref a ∧ Rd w.H a (.dK es) ∧ es.map (·.1) = kvs.map (·.1)) (Q : VK)
    (gq : Gets K w (fun x => x = .lst ((sortS ks).map D.str)) Q) : rSortedD [v] w.H Q := by
  obtain ⟨a, es, rfl, rd, ek⟩ := r
  refine ⟨a, es, ks, rfl, rd, by rw [ek, h], hl, fun ys p hp hs hn => ?_⟩
  rw [sortS_unique hp hs]
  exact gq.new (d := .lst ((sortS ks).map D.str)) ok hn True.intro ⟨p, _, rfl, .inl (.inl upd_same), RpL.of_strs _⟩ rfl
theorem eu_sortedD {kvs : List (Key × D)} {ks : List Str} (h : EvD K lk ta ρ (.dk kvs)) (hk : kvs.map (·.1) = ks.map Sum.inr) (hl : ks.length < 64) : EvD K lk (tCB (rSortedU K) (tCons ta tNil)) ρ (.lst ((sortS ks).map D.str)) := ev_cb1 (ea_cons h ea_nil) (rcr fun w vs ok _ r Q gq => by
  obtain ⟨v, e, r⟩ := ars_one r
  obtain ⟨a, es, e2, rd, r2⟩ := r
  rw [e]
  exact rc_sortedD hk hl w ok v ⟨a, es, e2, rd_same ok.sub rd, r2.keys⟩ Q gq)
theorem eu_sortedO {i : Nat} {kvs : List (Key × D)} {ks : List Str} (hi : ρ[i]? = some (.dk kvs)) (hk : kvs.map (·.1) = ks.map Sum.inr) (hl : ks.length < 64) : EvD K lk (tCB (rSortedU K) (tCons (tVar i) tNil)) ρ (.lst ((sortS ks).map D.str)) := fun w0 w σ s Q gq => by
  obtain ⟨a, ea, h0, hI, ht, es, hH, r⟩ := s.sl i _ hi
  exact ⟨.ref a, ea, .inr (rc_sortedD hk hl w s.ok (.ref a) ⟨a, es, rfl, .inl hH, r.keys⟩ Q gq)⟩
theorem eu_sortedS {ks : List Str} (h : EvD K lk ta ρ (.lst (ks.map D.str))) (hl : ks.length < 64) : EvD K lk (tCB (rSortedU K) (tCons ta tNil)) ρ (.lst ((sortS ks).map D.str)) := ev_cb1 (ea_cons h ea_nil) (rcl fun w vs ok _ r Q gq => by
  obtain ⟨v, e, r⟩ := ars_one r
  obtain ⟨a, us, e2, sq, r2⟩ := r
  rw [r2.strs] at sq
  refine ⟨a, ks, by rw [e, e2], sqLH ok sq, hl, fun ys p hp hs hn => ?_⟩
  rw [sortS_unique hp hs]
  exact gq.new (d := .lst ((sortS ks).map D.str)) ok hn True.intro ⟨p, _, rfl, .inl (.inl upd_same), RpL.of_strs _⟩ rfl)
/-! ### enumerate, zip -/
def iEnumU (K : PySem.W.Frag) (ta : TA) : TI := iOr (iEnT K ta) (iEnum K ta)
theorem pu_enum {X : Cx} {e : Expr} {ta : TA} {p pos tpos : Pos} {elts : List Expr} {kk : Nat} (hg : Gl X "enumerate") (hm : X.mg "enumerate" = none) (ha : PA X [e] ta) (hs : starEach [e] X.env = [(false, eval e X.env)] := by rfl) :
    PI X (.Tuple elts kk tpos) (.Call (.Name "enumerate" p) [e] [] pos) (iEnumU X.K ta) := pior (pi_enT hg hm ha hs) (pi_enum hg hm ha hs)
def enumD (xs : List D) : List D := xs.mapIdx fun i x => .tup [.int (i : Nat), x]
theorem enumD_len (xs : List D) : (enumD xs).length = xs.length := by unfold enumD; rw [List.length_mapIdx]
theorem enumD_get {xs : List D} {i : Nat} {x : D} (h : xs[i]? = some x) : (enumD xs)[i]? = some (.tup [.int (i : Nat), x]) := by unfold enumD; rw [List.getElem?_mapIdx, h]; rfl
theorem enumD_inv {xs : List D} {i : Nat} {y : D} (h : (enumD xs)[i]? = some y) : ∃ x, xs[i]? = some x ∧ y = .tup [.int (i : Nat), x] := by
  have hl : i < xs.length := by
    have := (List.getElem?_eq_some_iff.mp h).1
    rw [enumD_len] at this
    exact this
  have hx : xs[i]? = some xs[i] := List.getElem?_eq_getElem hl
  rw [enumD_get hx] at h
  exact ⟨_, hx, (Option.some.inj h).symm⟩
theorem new_pair {w : Wd} (ok : w.Ok) {T : Addr} {x y : V} {a b : D} (h : w.H T = none) (ra : Rp K w.I a x) (rb : Rp K w.I b y) : ∃ w2 : Wd, w2.H = upd w.H T (.tup [x, y]) ∧ w.le w2 ∧ w2.Ok ∧ Rp K w2.I (.tup [a, b]) (.ref T) := by
  have sm : Same w.I (upd w.I T (.tup [x, y])) := same_new (notI ok h)
  exact ⟨w.new T (.tup [x, y]), rfl, Wd.new_le ok h, Wd.new_ok ok h True.intro, T, _, rfl, .inl (.inl upd_same), x, [y], rfl, ra.mono sm, y, [], rfl, rb.mono sm, rfl⟩
theorem it_enumT {xs : List D} (h : EvD K lk te ρ (.tup xs)) : ItS K lk (iEnumU K (tCons te tNil)) ρ (fun ys => ys = enumD xs) := itl fun w0 w σ s R k => (ea_cons h ea_nil) w0 w σ s _ fun vs w1 as l1 ok1 r1 e => by
  subst e
  obtain ⟨v, e, r⟩ := ars_one r1
  obtain ⟨a, us, e2, sq, r⟩ := r
  refine ⟨a, us, by rw [e, e2], sqTH ok1 sq, k _ w1 _ l1 ok1 rfl ⟨fun i w' ok' sm hi => ?_, fun i w' v' H' ok' sm y x hx => ?_, fun w' ok' sm => ?_⟩⟩
  · have hi' : i < us.length := by rw [r.length, ← enumD_len]; exact hi
    exact ⟨us, us[i], sqTH ok' (sqT_keeps (.of_same sm) sq), List.getElem?_eq_getElem hi'⟩
  · obtain ⟨T, z, rfl, hT, rfl, f⟩ := y
    obtain ⟨x0, hx0, rfl⟩ := enumD_inv hx
    obtain ⟨u, hu, ru⟩ := r.get hx0
    have ez := f us (sqTH ok' (sqT_keeps (.of_same sm) sq))
    rw [hu] at ez
    cases ez
    exact new_pair ok' hT rfl (ru.mono sm)
  · exact ⟨us, sqTH ok' (sqT_keeps (.of_same sm) sq), by rw [enumD_len, r.length]⟩
theorem it_enumL {xs : List D} (h : EvD K lk te ρ (.lst xs)) : ItS K lk (iEnumU K (tCons te tNil)) ρ (fun ys => ys = enumD xs) := itr fun w0 w σ s R k => (ea_cons h ea_nil) w0 w σ s _ fun vs w1 as l1 ok1 r1 e => by
  subst e
  obtain ⟨v, e, r⟩ := ars_one r1
  obtain ⟨a, us, e2, sq, r⟩ := r
  refine ⟨a, us, by rw [e, e2], sqLH ok1 sq, k _ w1 _ l1 ok1 rfl ⟨fun i w' ok' sm hi => ?_, fun i w' v' H' ok' sm y x hx => ?_, fun w' ok' sm => ?_⟩⟩
  · have hi' : i < us.length := by rw [r.length, ← enumD_len]; exact hi
    exact ⟨us, us[i], sqLH ok' (sqL_keeps (.of_same sm) sq), List.getElem?_eq_getElem hi'⟩
  · obtain ⟨T, z, rfl, hT, rfl, f⟩ := y
    obtain ⟨x0, hx0, rfl⟩ := enumD_inv hx
    obtain ⟨u, hu, ru⟩ := r.get hx0
    have ez := f us (sqLH ok' (sqL_keeps (.of_same sm) sq))
    rw [hu] at ez
    cases ez
    exact new_pair ok' hT rfl (ru.mono sm)
  · exact ⟨us, sqLH ok' (sqL_keeps (.of_same sm) sq), by rw [enumD_len, r.length]; exact Nat.le_refl _⟩
def iZipU (K : PySem.W.Frag) (ta : TA) : TI := RZ.iZipA K ta
theorem pu_zip {X : Cx} {e e2 : Expr} {ta : TA} {p pos tpos : Pos} {elts : List Expr} {kk : Nat} (hg : Gl X "zip") (hm : X.mg "zip" = none) (ha : PA X [e, e2] ta)
    (hs : starEach [e, e2] X.env = (false, eval e X.env) :: starEach [e2] X.env := by rfl) (hpl : (backTo pos (starEach [e2] X.env)).any (·.1) = false := by rfl) :
    PI X (.Tuple elts kk tpos) (.Call (.Name "zip" p) [e, e2] [] pos) (iZipU X.K ta) := RZ.pi_zipA hg hm ha hs hpl
def zipD (xs ys : List D) : List D := (xs.zip ys).map fun p => .tup [p.1, p.2]
theorem zipD_inv {xs ys : List D} {i : Nat} {z : D} (h : (zipD xs ys)[i]? = some z) : ∃ x y, xs[i]? = some x ∧ ys[i]? = some y ∧ z = .tup [x, y] := by
  unfold zipD at h
  rw [List.getElem?_map] at h
  cases e : (xs.zip ys)[i]? with
  | none => rw [e] at h; cases h
  | some p =>
    rw [e] at h
    obtain ⟨h1, h2⟩ := List.getElem?_zip_eq_some.mp e
    exact ⟨p.1, p.2, h1, h2, (Option.some.inj h).symm⟩
theorem zipD_len (xs ys : List D) : (zipD xs ys).length = min xs.length ys.length := by unfold zipD; rw [List.length_map, List.length_zip]
theorem it_zipT {xs ys : List D} (h : EvD K lk te ρ (.tup xs)) (h' : EvD K lk tb ρ (.tup ys)) : ItS K lk (iZipU K (tCons te (tCons tb tNil))) ρ (fun zs => zs = zipD xs ys) := fun w0 w σ s R k => by
  unfold iZipU RZ.iZipA
  refine (ea_cons h (ea_cons h' ea_nil)) w0 w σ s _ fun vs w1 as l1 ok1 r1 e => ?_
  subst e
  obtain ⟨v, u, e, rv, ru⟩ := ars_two r1
  obtain ⟨a, us, e1, sq1, q1⟩ := rv
  obtain ⟨b, ws, e2, sq2, q2⟩ := ru
  refine ⟨a, b, us, ws, by rw [e, e1, e2], .inr ⟨sqTH ok1 sq1, sqTH ok1 sq2, k _ w1 _ l1 ok1 rfl ⟨fun i w' ok' sm hi => ?_, fun i w' v' H' ok' sm y x hx => ?_, fun w' ok' sm => ?_⟩⟩⟩
  · rw [zipD_len] at hi
    have h1 : i < us.length := by rw [q1.length]; omega
    have h2 : i < ws.length := by rw [q2.length]; omega
    exact ⟨us, ws, us[i], ws[i], sqTH ok' (sqT_keeps (.of_same sm) sq1), sqTH ok' (sqT_keeps (.of_same sm) sq2), List.getElem?_eq_getElem h1, List.getElem?_eq_getElem h2⟩
  · obtain ⟨T, z1, z2, rfl, hT, rfl, f1, f2⟩ := y
    obtain ⟨x1, x2, hx1, hx2, rfl⟩ := zipD_inv hx
    obtain ⟨u1, hu1, ru1⟩ := q1.get hx1
    obtain ⟨u2, hu2, ru2⟩ := q2.get hx2
    have ez1 := f1 us (sqTH ok' (sqT_keeps (.of_same sm) sq1))
    have ez2 := f2 ws (sqTH ok' (sqT_keeps (.of_same sm) sq2))
    rw [hu1] at ez1
    rw [hu2] at ez2
    cases ez1
    cases ez2
    exact new_pair ok' hT (ru1.mono sm) (ru2.mono sm)
  · refine ⟨us, ws, sqTH ok' (sqT_keeps (.of_same sm) sq1), sqTH ok' (sqT_keeps (.of_same sm) sq2), ?_⟩
    rw [zipD_len, q1.length, q2.length]
    omega
theorem it_zipL {xs ys : List D} (h : EvD K lk te ρ (.lst xs)) (h' : EvD K lk tb ρ (.lst ys)) : ItS K lk (iZipU K (tCons te (tCons tb tNil))) ρ (fun zs => zs = zipD xs ys) := fun w0 w σ s R k => by
  unfold iZipU RZ.iZipA
  refine (ea_cons h (ea_cons h' ea_nil)) w0 w σ s _ fun vs w1 as l1 ok1 r1 e => ?_
  subst e
  obtain ⟨v, u, e, rv, ru⟩ := ars_two r1
  obtain ⟨a, us, e1, sq1, q1⟩ := rv
  obtain ⟨b, ws, e2, sq2, q2⟩ := ru
  refine ⟨a, b, us, ws, by rw [e, e1, e2], .inl ⟨sqLH ok1 sq1, sqLH ok1 sq2, k _ w1 _ l1 ok1 rfl ⟨fun i w' ok' sm hi => ?_, fun i w' v' H' ok' sm y x hx => ?_, fun w' ok' sm => ?_⟩⟩⟩
  · rw [zipD_len] at hi
    have h1 : i < us.length := by rw [q1.length]; omega
    have h2 : i < ws.length := by rw [q2.length]; omega
    exact ⟨us, ws, us[i], ws[i], sqLH ok' (sqL_keeps (.of_same sm) sq1), sqLH ok' (sqL_keeps (.of_same sm) sq2), List.getElem?_eq_getElem h1, List.getElem?_eq_getElem h2⟩
  · obtain ⟨T, z1, z2, rfl, hT, rfl, f1, f2⟩ := y
    obtain ⟨x1, x2, hx1, hx2, rfl⟩ := zipD_inv hx
    obtain ⟨u1, hu1, ru1⟩ := q1.get hx1
    obtain ⟨u2, hu2, ru2⟩ := q2.get hx2
    have ez1 := f1 us (sqLH ok' (sqL_keeps (.of_same sm) sq1))
    have ez2 := f2 ws (sqLH ok' (sqL_keeps (.of_same sm) sq2))
    rw [hu1] at ez1
    rw [hu2] at ez2
    cases ez1
    cases ez2
    exact new_pair ok' hT (ru1.mono sm) (ru2.mono sm)
  · refine ⟨us, ws, sqLH ok' (sqL_keeps (.of_same sm) sq1), sqLH ok' (sqL_keeps (.of_same sm) sq2), ?_⟩
    rw [zipD_len, q1.length, q2.length]
    omega
/-! ### isinstance -/
def rIsiU (K : PySem.W.Frag) : List V → Hp → VK → Prop := cOr (rIsi K) (rIsiT K)
theorem cu_isi {X : Cx} : CallR X (.builtin "isinstance") (rIsiU X.K) := cr_or call_isi call_isiT
def tyD : D → String
  | .non => "NoneType"
  | .bl _ => "bool"
  | .int _ => "int"
  | .str _ => "str"
  | .lst _ => "list"
  | .tup _ => "tuple"
  | .tk _ => "tuple"
  | .tf _ => "tuple"
  | .li _ => "list"
  | .dk _ => "dict"
  | .dt _ => "dict"
theorem ty_of {w : Wd} (ok : w.Ok) {v : V} (r : Rp K w.I d v) (hd : ∀ x, d ≠ .dt x) : TyX K w.H v (.type (tyD d)) := by
  cases d with
  | non => rw [show v = .non from r]; exact .base .non
  | bl b => rw [show v = .bl b from r]; exact .base (.bl b)
  | int b => rw [show v = .int b from r]; exact .base (.int b)
  | str b => rw [show v = .str b from r]; exact .base (.str b)
  | lst xs =>
    obtain ⟨a, vs, e, sq, _⟩ := r
    rw [e]
    rcases sqLH ok sq with (h | ⟨o, h⟩) | ⟨o, its, n, h, c, _⟩
    · exact .base (.lst h)
    · exact .base (.frz h)
    · exact .kList h c
  | tup xs =>
    obtain ⟨a, vs, e, sq, _⟩ := r
    rw [e]
    rcases sqTH ok sq with (h | ⟨o, h⟩) | ⟨o, its, n, h, c, _⟩
    · exact .base (.tup h)
    · exact .fTuple h
    · exact .kTuple h c
  | tk ks =>
    obtain ⟨a, e, h⟩ := r
    rw [e]
    exact .base (.tup (ok.sub _ _ h))
  | tf ss =>
    obtain ⟨a, o, e, h, _⟩ := r
    rw [e]
    exact .fTuple (ok.sub _ _ h)
  | li ns =>
    obtain ⟨a, e, rd⟩ := r
    rw [e]
    rcases rd_same ok.sub rd with h | ⟨o, h⟩
    · exact .base (.lst h)
    · exact .base (.frz h)
  | dk xs =>
    obtain ⟨a, vs, e, rd, _⟩ := r
    rw [e]
    rcases rd_same ok.sub rd with h | ⟨o, h⟩
    · exact .base (.dK h)
    · exact .fDict h
  | dt xs => exact absurd rfl (hd xs)
theorem ev_isi {c : String} {b : Bool} (h : EvD K lk ta ρ d) (hd : ∀ x, d ≠ .dt x) (hb : kitB (tyD d) c = some b) : EvD K lk (tCB (rIsiU K) (tCons ta (tCons (tC (.ty c)) tNil))) ρ (.bl b) := fun w0 w σ s Q g =>
  h w0 w σ s _ fun v w1 x l1 ok1 r1 e => by
    subst e
    exact .inl ⟨v, .ty c, _, _, b, rfl, .ty c, ty_of ok1 r1 hd, kit_ty hb, (g.up l1).here (d := .bl b) ok1 rfl rfl⟩
theorem ev_isi2 {c e : String} {b1 b2 : Bool} (h : EvD K lk ta ρ d) (hd : ∀ x, d ≠ .dt x) (h1 : kitB (tyD d) c = some b1) (h2 : kitB (tyD d) e = some b2) : EvD K lk (tCB (rIsiU K) (tCons ta (tCons (tTupU (tCons (tC (.ty c)) (tCons (tC (.ty e)) tNil))) tNil))) ρ (.bl (b1 || b2)) := fun w0 w σ s Q g =>
  h w0 w σ s _ fun v w1 x l1 ok1 r1 ed => .inl ⟨by show 2 ≤ sizeLine; decide, fun p hp => by
    subst ed
    have l2 := Wd.new_le (o := .tup [.ty c, .ty e]) ok1 hp
    have ok2 := Wd.new_ok (o := .tup [.ty c, .ty e]) ok1 hp True.intro
    refine .inr ⟨v, p, [.ty c, .ty e], _, [.type c, .type e], b1 || b2, rfl, upd_same, .cons (.ty c) (.cons (.ty e) .nil), ty_of ok2 (r1.mono l2.I) hd, ?_, ((g.up l1).up l2).here (d := .bl _) ok2 rfl rfl⟩
    refine kitAny_cons (kit_ty h1) (fun z => kitAny_cons (kit_ty h2) (fun z2 => ?_) fun z2 => ?_) fun z => by rw [z]; rfl
    · rw [z, z2]; exact kitAny_nil
    · rw [z, z2]; rfl⟩
end
end RF

set_option Elab.async false
set_option linter.all false
set_option maxRecDepth 100000
set_option maxHeartbeats 4000000
set_option autoImplicit false
namespace RF
open PySem L2

def rListU (K : PySem.W.Frag) : List V → Hp → VK → Prop := rListSq K
theorem cu_list {X : Cx} (_ : X.calm = true) : CallR X (.type "list") (rListU X.K) := call_list_of
def rInsert : V → List V → Hp → VK → Prop := fun x vs H Q => ∃ (l : Addr) (xs : List V) (i : Int) (y : V), x = .ref l ∧ vs = [.int i, y] ∧ H l = some (.lst xs) ∧ xs.length < sizeLine ∧ 0 ≤ i ∧ i < 2 ^ 63 ∧
    Q .non (upd H l (.lst (xs.take i.toNat ++ [y] ++ xs.drop i.toNat)))
section
variable {K : PySem.W.Frag} {lk : Bool} {ρ : List Sl} {ta tb te ti : TE} {P : D → Prop} {u : TS} {p : Po} {d : D}
/-! ### lists of the frame's own: items, lengths, puts, inserts -/
theorem eu_ixO {i : Nat} {xs : List D} {j : Int} (hi : ρ[i]? = some (.lst xs)) (hb : EvD K lk tb ρ (.int j)) (h : atI xs j = some d) : EvD K lk (rIxU K (tVar i) tb) ρ d := ev_r (ev_l fun w0 w σ s Q g => by
  obtain ⟨a, ea, _⟩ := s.sl i _ hi
  refine ⟨.ref a, ea, hb w0 w σ s _ fun y w2 x2 l2 ok2 r2 e2 => ?_⟩
  subst e2
  obtain ⟨a', ea', h0, hI, ht, vs, hH, r⟩ := (s.mono l2 ok2).sl i _ hi
  rw [ea] at ea'
  cases ea'
  obtain ⟨z, h1, h2⟩ := at_rp r h
  exact ⟨a, vs, j, z, rfl, r2, .inl (.inl hH), h1, (g.up l2).here ok2 h2 rfl⟩)
theorem eu_lenO {i : Nat} {xs : List D} (hi : ρ[i]? = some (.lst xs)) : EvD K lk (tCB (rLenU K) (tCons (tVar i) tNil)) ρ (.int xs.length) := fun w0 w σ s Q g => by
  obtain ⟨a, ea, h0, hI, ht, vs, hH, r⟩ := s.sl i _ hi
  refine ⟨.ref a, ea, .inl ⟨a, vs, rfl, .inl (.inl (.inl hH)), ?_⟩⟩
  rw [r.length]
  exact g.here (d := .int xs.length) s.ok rfl rfl
theorem st_putL {i k : Nat} {xs : List D} {j : Int} (hi : ρ[i]? = some (.lst xs)) (hb : EvD K lk tb ρ (.int j)) (hj : ixN xs.length j = some k) (h : EvS K lk te ρ P) (q : ∀ d, P d → p.nx (ρ.set i (.lst (xs.set k d)))) : StS K lk (sPutU (tVar i) tb te) ρ p := fun w0 w σ E s f => .inl
  (h w0 w σ s _ fun v w1 d l1 ok1 r1 c => by
    have s1 := s.mono l1 ok1
    obtain ⟨a, ea, _⟩ := s1.sl i _ hi
    refine ⟨.ref a, ea, hb w0 w1 σ s1 _ fun y w2 x2 l2 ok2 r2 e2 => ?_⟩
    subst e2
    have s2 := s1.mono l2 ok2
    obtain ⟨a', ea', h0, hI, ht, vs, hH, r⟩ := s2.sl i _ hi
    rw [ea] at ea'
    cases ea'
    refine ⟨a, vs, j, k, rfl, r2, hH, by rw [r.length]; exact hj, ?_⟩
    exact f.nx σ (w2.put a (.lst (vs.set k v))) _ (s2.own hi rfl ea (.lst (vs.set k v)) True.intro (own_list ok2 h0 hI ht (RpL.set (r1.mono l2.I) k r))) (q d c))
theorem st_putLq {i k : Nat} {xs : List D} {j : Int} (hi : ρ[i]? = some (.lst xs)) (hb : EvD K lk tb ρ (.int j)) (hj : ixN xs.length j = some k) (h : EvS K lk te ρ P) (q : ∀ d, P d → StS K lk u (ρ.set i (.lst (xs.set k d))) p) : StS K lk (tSeq (sPutU (tVar i) tb te) u) ρ p :=
  st_seq (fun ρ' => ∃ d, P d ∧ ρ' = ρ.set i (.lst (xs.set k d))) (st_putL hi hb hj h fun d c => ⟨d, c, rfl⟩) fun ρ' ⟨d, c, e⟩ => by rw [e]; exact q d c
/-- xs.insert(i, e) -/
theorem st_ins {i : Nat} {xs : List D} {A : Int → Prop} {B : D → Prop} (hi : ρ[i]? = some (.lst xs)) (hb : EvS K lk tb ρ (fun d => ∃ j, d = .int j ∧ A j)) (hA : ∀ j, A j → 0 ≤ j ∧ j < 2 ^ 60) (h : EvS K lk te ρ B) (hl : xs.length < 100000)
    (k : ∀ j d, A j → B d → p.nx (ρ.set i (.lst (xs.take j.toNat ++ [d] ++ xs.drop j.toNat)))) : StS K lk (tDrop (tBM K "list" rInsert (tVar i) (tCons tb (tCons te tNil)))) ρ p := fun w0 w σ E s f => by
  obtain ⟨a, ea, h0, hI, ht, vs, hH, r⟩ := s.sl i _ hi
  refine ⟨.ref a, ea, Or.inl ⟨rfl, vs, .inl (.inl hH)⟩, hb w0 w σ s _ fun v w1 d l1 ok1 r1 c => h w0 w1 σ (s.mono l1 ok1) _ fun v2 w2 d2 l2 ok2 r2 c2 => ?_⟩
  have s1 := (s.mono l1 ok1).mono l2 ok2
  obtain ⟨a', ea', h0', hI', ht', vs', hH', r'⟩ := s1.sl i _ hi
  rw [ea] at ea'
  cases ea'
  obtain ⟨j, rfl, aj⟩ := c
  obtain ⟨j0, j1⟩ := hA j aj
  have ev : v = .int j := r1
  subst ev
  refine ⟨a, vs', j, v2, rfl, rfl, hH', by rw [r'.length]; exact Nat.lt_trans hl (by decide), j0, Int.lt_trans j1 (by decide), ?_⟩
  exact f.nx σ (w2.put a (.lst (vs'.take j.toNat ++ [v2] ++ vs'.drop j.toNat))) _ (s1.own hi rfl ea _ True.intro (own_list ok2 h0' hI' ht' (((r'.take _).append (.one r2)).append (r'.drop _)))) (k j d2 aj c2)
/-- a slot holds a thing of the frame's own that no other slot holds -/
theorem Sr.hold {w0 w : Wd} {σ : St} (h : Sr K lk w0 w σ ρ) (i : Nat) {a : Addr} {t : Sl} (hn : OwnAt K w0 w t a) (hap : ∀ (m : Nat) (s : Sl), ρ[m]? = some s → isOwn s = true → σ[m]? ≠ some (some (.ref a))) : Sr K lk w0 w (σ.set i (some (.ref a))) (ρ.set i t) := by
  refine ⟨h.lk, h.le, h.ok, by rw [List.length_set, List.length_set]; exact h.len, fun j s' e => ?_, fun j k s' t' b e1 e2 o1 o2 f1 f2 => ?_⟩
  · by_cases z : i = j
    · subst z
      have hl : i < ρ.length := by
        have := (List.getElem?_eq_some_iff.mp e).1
        rw [List.length_set] at this
        exact this
      rw [List.getElem?_set_self hl] at e
      cases e
      exact (SlOk.own hn.own).mpr ⟨a, by rw [List.getElem?_set_self (by rw [h.len]; exact hl)], hn⟩
    · rw [List.getElem?_set_ne z] at e ⊢
      exact h.sl j s' e
  · have other : ∀ {m : Nat} {r : Sl}, i ≠ m → (ρ.set i t)[m]? = some r → isOwn r = true → (σ.set i (some (.ref a)))[m]? = some (some (.ref b)) → b ≠ a ∧ ρ[m]? = some r ∧ σ[m]? = some (some (.ref b)) := fun {m r} z e orr f => by
      rw [List.getElem?_set_ne z] at e f
      exact ⟨fun y => hap m r e orr (by rw [f, y]), e, f⟩
    have self : ∀ {m : Nat} {r : Sl}, i = m → (ρ.set i t)[m]? = some r → (σ.set i (some (.ref a)))[m]? = some (some (.ref b)) → b = a := fun {m r} z e f => by
      subst z
      have hl : i < ρ.length := by
        have := (List.getElem?_eq_some_iff.mp e).1
        rw [List.length_set] at this
        exact this
      rw [List.getElem?_set_self (by rw [h.len]; exact hl)] at f
      cases f
      rfl
    by_cases zj : i = j
    · by_cases zk : i = k
      · exact zj.symm.trans zk
      · exact absurd (self zj e1 f1) (other zk e2 o2 f2).1
    · by_cases zk : i = k
      · exact absurd (self zk e2 f2) (other zj e1 o1 f1).1
      · obtain ⟨_, g1, k1⟩ := other zj e1 o1 f1
        obtain ⟨_, g2, k2⟩ := other zk e2 o2 f2
        exact h.ap j k s' t' b g1 g2 o1 o2 k1 k2
theorem Sr.fresh_ap {w0 w : Wd} {σ : St} (s : Sr K lk w0 w σ ρ) {a : Addr} (ha : w.H a = none) (m : Nat) (t : Sl) (hm : ρ[m]? = some t) (ho : isOwn t = true) : σ[m]? ≠ some (some (.ref a)) := fun z => by
  obtain ⟨b', eb, ob⟩ := (SlOk.own ho).mp (s.sl m t hm)
  rw [z] at eb
  cases eb
  exact ob.there ha
/-- a world that has one more thing of nobody's -/
theorem Sr.stray {w0 w : Wd} {σ : St} (s : Sr K lk w0 w σ ρ) {a : Addr} {o : HO} (hp : plainO o) (ha : w.H a = none) : Sr K lk w0 (w.put a o) σ ρ := by
  have l : w.le (w.put a o) := Wd.le_put (.refl w) ha
  exact s.mono l (Wd.put_ok s.ok (notI s.ok ha) (not_tape s.ok ha) hp)
/-- x, y = [], e -/
theorem st_parO {i j : Nat} (h : EvD K lk te ρ d) (k : p.nx ((ρ.set i (.lst [])).set j (.dat d))) : StS K lk (tPar i j (tCons (tLst tNil) (tCons te tNil))) ρ p := fun w0 w σ E s f =>
  ⟨by show 0 ≤ sizeLine; decide, fun a ha => by
    have sx := s.stray (o := .lst []) True.intro ha
    refine h w0 _ σ sx _ fun v w1 x l1 ok1 r1 e => ⟨.ref a, v, rfl, ?_⟩
    subst e
    have hI1 : w1.I a = none := l1.fr a (notI s.ok ha) (by show upd w.H a _ a ≠ none; rw [upd_same]; exact fun z => nomatch z)
    have hH1 : w1.H a = some (.lst []) := l1.H a _ upd_same (not_tape s.ok ha)
    have ht1 : w1.tp ≠ some a := by rw [l1.tp]; exact not_tape s.ok ha
    exact f.nx _ w1 _ (((sx.mono l1 ok1).hold i (t := .lst []) ⟨s.le.dom a ha, hI1, ht1, [], hH1, rfl⟩ (s.fresh_ap ha)).set j r1) k⟩
theorem st_parOq {i j : Nat} (h : EvD K lk te ρ d) (k : StS K lk u ((ρ.set i (.lst [])).set j (.dat d)) p) : StS K lk (tSeq (tPar i j (tCons (tLst tNil) (tCons te tNil))) u) ρ p :=
  st_seq (fun ρ' => ρ' = (ρ.set i (.lst [])).set j (.dat d)) (st_parO h rfl) fun ρ' e => by rw [e]; exact k
/-- x, y = e, [] -/
theorem st_parL {i j : Nat} (h : EvD K lk te ρ d) (k : p.nx ((ρ.set i (.dat d)).set j (.lst []))) : StS K lk (tPar i j (tCons te (tCons (tLst tNil) tNil))) ρ p := fun w0 w σ E s f =>
  h w0 w σ s _ fun v w1 x l1 ok1 r1 e => ⟨by show 0 ≤ sizeLine; decide, fun a ha => ⟨v, .ref a, rfl, by
    subst e
    have s1 := (s.mono l1 ok1).set i r1
    exact f.nx _ _ _ (s1.grow j (o := .lst []) (t := .lst []) True.intro ha ⟨s1.le.dom a ha, notI ok1 ha, not_tape ok1 ha, [], upd_same, rfl⟩) k⟩⟩
theorem st_parLq {i j : Nat} (h : EvD K lk te ρ d) (k : StS K lk u ((ρ.set i (.dat d)).set j (.lst [])) p) : StS K lk (tSeq (tPar i j (tCons te (tCons (tLst tNil) tNil))) u) ρ p :=
  st_seq (fun ρ' => ρ' = (ρ.set i (.dat d)).set j (.lst [])) (st_parL h rfl) fun ρ' e => by rw [e]; exact k
end
/-! ### the tape -/
section
variable {K : PySem.W.Frag}
/-- the world in which the tape is the frame's own: seen from a base that does not know it -/
def Wd.shut (w : Wd) (a : Addr) : Wd := { I := w.I, H := fun b => if b = a then none else w.H b, tp := none, lk := w.lk }
def Wd.bare (w : Wd) : Wd := { w with tp := none }
def Wd.taped (w : Wd) (a : Addr) : Wd := { w with tp := some a }
def tapeD (ns : List Int) (p c : Int) : List D := [.li ns, .int p, .int c]
theorem shut_le {w : Wd} {a : Addr} : (w.shut a).le w.bare where
  tp := rfl
  lk := rfl
  I := fun _ _ h => h
  H := fun b o e _ => by
    have e : (if b = a then none else w.H b) = some o := e
    by_cases z : b = a
    · rw [if_pos z] at e; cases e
    · rw [if_neg z] at e; exact e
  fr := fun _ h _ => h
  dom := fun b e => by
    show (if b = a then none else w.H b) = none
    by_cases z : b = a
    · rw [if_pos z]
    · rw [if_neg z]; exact e
theorem bare_ok {w : Wd} (ok : w.Ok) : w.bare.Ok where
  sub := ok.sub
  tape := fun a e => by cases (show (none : Option Addr) = some a from e)
  nolk := ok.nolk
/-- the tape is opened -/
theorem open_tape {w : Wd} {a : Addr} (ok : w.Ok) (ht : w.tp = some a) : ∃ ns p c, 0 ≤ p ∧ ns.length ≤ 1000 ∧ OwnAt K (w.shut a) w.bare (.lst (tapeD ns p c)) a := by
  obtain ⟨hI, b, p, c, ns, hH, rd, h0, hl⟩ := ok.tape a ht
  refine ⟨ns, p, c, h0, hl, ?_, hI, (fun z => by cases (show (none : Option Addr) = some a from z)), [.ref b, .int p, .int c], hH, ?_⟩
  · show (if a = a then none else w.H a) = none
    rw [if_pos rfl]
  · exact ⟨_, _, rfl, ⟨b, rfl, rd⟩, _, _, rfl, rfl, _, _, rfl, rfl, rfl⟩
/-- .. and shut again -/
theorem shut_tape {w w' : Wd} {a : Addr} {ns : List Int} {p c : Int} (ok : w.Ok) (ht : w.tp = some a) (l : (w.shut a).le w') (ok' : w'.Ok) (h : OwnAt K (w.shut a) w' (.lst (tapeD ns p c)) a) (h0 : 0 ≤ p) (hl : ns.length ≤ 1000) : w.le (w'.taped a) ∧ (w'.taped a).Ok := by
  obtain ⟨_, hI, _, vs, hH, r⟩ := h
  obtain ⟨v1, r1, e1, q1, v2, r2, e2, q2, v3, r3, e3, q3, e4⟩ := r
  subst e1 e2 e3
  rw [show r3 = [] from e4, show v2 = .int p from q2, show v3 = .int c from q3] at hH
  obtain ⟨b, e5, rd⟩ := q1
  rw [e5] at hH
  refine ⟨⟨ht.symm ▸ rfl, l.lk, l.I, fun x o e n => ?_, fun x e n => ?_, fun x e => ?_⟩, ⟨ok'.sub, fun x e => ?_, ok'.nolk⟩⟩
  · have nx : x ≠ a := fun z => n (by rw [ht, z])
    refine l.H x o ?_ (fun z => by cases (show (none : Option Addr) = some x from z))
    show (if x = a then none else w.H x) = some o
    rw [if_neg nx]
    exact e
  · by_cases z : x = a
    · rw [z]; exact hI
    · refine l.fr x e ?_
      show (if x = a then none else w.H x) ≠ none
      rw [if_neg z]
      exact n
  · by_cases z : x = a
    · have e : w'.H x = none := e
      rw [z, hH] at e
      cases e
    · have q := l.dom x e
      have q : (if x = a then none else w.H x) = none := q
      rw [if_neg z] at q
      exact q
  · have e : some a = some x := e
    cases e
    exact ⟨hI, b, p, c, ns, hH, rd, h0, hl⟩
end
end RF

set_option Elab.async false
set_option linter.all false
set_option maxRecDepth 100000
set_option maxHeartbeats 4000000
set_option autoImplicit false
namespace RF
open PySem L2

/-! ### _law_draw, by what the slots and the heap hold -/
section
variable {K : PySem.W.Frag} {σ : St} {H : Hp} {ta tb te : TE} {i j : Int} {v u : V} {t s : TS} {E : Ends} {tt tu : TT}
theorem mul_ok {i j : Int} (a b : Nat) (ha : i.natAbs < 2 ^ a) (hb : j.natAbs < 2 ^ b) (h0 : 0 < a) (h1 : 0 < b) (h : a + b ≤ 1000000) : IntMulOk i j := (wide_mul ha hb h0 h1 h).ok
theorem atI_nat {α : Type} {xs : List α} {i : Nat} {x : α} (h : xs[i]? = some x) : atI xs (i : Int) = some x := by
  have hl := (List.getElem?_eq_some_iff.mp h).1
  unfold atI ixN
  rw [if_pos (by omega), if_pos (by omega)]
  exact h
def Pv (te : TE) (σ : St) (H : Hp) (v : V) : Prop := ∀ Q : VK, Q v H → te σ H Q
def Pb (tt : TT) (σ : St) (H : Hp) (b : Bool) : Prop := ∀ Q : Bool → Hp → Prop, Q b H → tt σ H Q
theorem pv_v {n : Nat} (h : σ[n]? = some (some v)) : Pv (tVar n) σ H v := fun Q q => ⟨v, h, q⟩
theorem pv_c : Pv (tC v) σ H v := fun Q q => q
theorem pv_op {r : R2} {x y z : V} (ha : Pv ta σ H x) (hb : Pv tb σ H y) (h : ∀ Q : VK, Q z H → r x y H Q) : Pv (tOp r ta tb) σ H z := fun Q q => ha _ (hb _ (h Q q))
theorem pv_add (ha : Pv ta σ H (.int i)) (hb : Pv tb σ H (.int j)) : Pv (tOp (rAddU K) ta tb) σ H (.int (i + j)) := pv_op ha hb fun Q q => .inl ⟨i, j, rfl, rfl, q⟩
theorem pv_mul (ha : Pv ta σ H (.int i)) (hb : Pv tb σ H (.int j)) (h : IntMulOk i j) : Pv (tOp (rMulU K) ta tb) σ H (.int (i * j)) := pv_op ha hb fun Q q => ⟨i, j, rfl, rfl, h, q⟩
theorem pv_div (ha : Pv ta σ H (.int i)) (hb : Pv tb σ H (.int j)) (h : CDivW i j) : Pv (tOp rDivI ta tb) σ H (.int (i / j)) := pv_op ha hb fun Q q => ⟨i, j, rfl, rfl, h, q⟩
theorem pv_mod (ha : Pv ta σ H (.int i)) (hb : Pv tb σ H (.int j)) (h : 0 < j) : Pv (tOp rModI ta tb) σ H (.int (i % j)) := pv_op ha hb fun Q q => ⟨i, j, rfl, rfl, h, q⟩
theorem pv_pow (ha : Pv ta σ H (.int i)) (hb : Pv tb σ H (.int j)) (h : CPow i j) : Pv (tOp rPowI ta tb) σ H (.int (i ^ j.toNat)) := pv_op ha hb fun Q q => ⟨i, j, rfl, rfl, h, q⟩
theorem pv_lt (ha : Pv ta σ H (.int i)) (hb : Pv tb σ H (.int j)) : Pv (tOp (rLtU K) ta tb) σ H (.bl (decide (i < j))) := pv_op ha hb fun Q q => .inl ⟨i, j, rfl, rfl, q⟩
theorem pv_gt (ha : Pv ta σ H (.int i)) (hb : Pv tb σ H (.int j)) : Pv (tOp rGtI ta tb) σ H (.bl (decide (j < i))) := pv_op ha hb fun Q q => ⟨i, j, rfl, rfl, q⟩
theorem pv_ge (ha : Pv ta σ H (.int i)) (hb : Pv tb σ H (.int j)) : Pv (tOp rGeI ta tb) σ H (.bl (decide (j ≤ i))) := pv_op ha hb fun Q q => ⟨i, j, rfl, rfl, q⟩
theorem pv_ix {a : Addr} {xs : List V} (ha : Pv ta σ H (.ref a)) (hb : Pv tb σ H (.int i)) (hs : SqL K H a xs) (h : atI xs i = some v) : Pv (rIxU K ta tb) σ H v := fun Q q => .inr (.inl (ha _ (hb _ ⟨a, xs, i, v, rfl, rfl, hs, h, q⟩)))
theorem pv_len {a : Addr} {xs : List V} (ha : Pv ta σ H (.ref a)) (hs : SqL K H a xs) : Pv (tCB (rLenU K) (tCons ta tNil)) σ H (.int xs.length) := fun Q q => ha _ (.inl ⟨a, xs, rfl, .inl hs, q⟩)
theorem pb_test {b : Bool} (h : Pv te σ H (.bl b)) : Pb (tTest te) σ H b := fun Q q => h _ ⟨b, rfl, q⟩
theorem pb_or {a b : Bool} (h : Pb tt σ H a) (k : Pb tu σ H b) : Pb (tOr tt tu) σ H (a || b) := fun Q q => h _ (by
  cases a with
  | true => exact q
  | false => exact k _ q)
theorem rs_set {n : Nat} (h : Pv te σ H v) (k : E.nx (σ.set n (some v)) H) : tAsg te (gName n) E σ H := h _ k
theorem rs_let {n : Nat} (h : Pv te σ H v) (k : t E (σ.set n (some v)) H) : tSeq (tAsg te (gName n)) t E σ H := h _ k
theorem rs_if {b : Bool} (h : Pb tt σ H b) (h1 : b = true → t E σ H) (h2 : b = false → s E σ H) : tIfS tt t s E σ H := h _ (by
  cases b with
  | true => exact h1 rfl
  | false => exact h2 rfl)
theorem rs_ifq {b : Bool} {z : TS} (h : Pb tt σ H b) (h1 : b = true → tSeq t z E σ H) (h2 : b = false → tSeq s z E σ H) : tSeq (tIfS tt t s) z E σ H := h _ (by
  cases b with
  | true => exact h1 rfl
  | false => exact h2 rfl)
theorem rs_put {a : Addr} {xs : List V} {n : Nat} (ha : Pv ta σ H (.ref a)) (hb : Pv tb σ H (.int i)) (h : Pv te σ H v) (hH : H a = some (.lst xs)) (hn : ixN xs.length i = some n) (k : E.nx σ (upd H a (.lst (xs.set n v)))) : sPutU ta tb te E σ H :=
  .inl (h _ (ha _ (hb _ ⟨a, xs, i, n, rfl, rfl, hH, hn, k⟩)))
theorem rs_putq {a : Addr} {xs : List V} {n : Nat} {z : TS} (ha : Pv ta σ H (.ref a)) (hb : Pv tb σ H (.int i)) (h : Pv te σ H v) (hH : H a = some (.lst xs)) (hn : ixN xs.length i = some n) (k : z E σ (upd H a (.lst (xs.set n v)))) : tSeq (sPutU ta tb te) z E σ H :=
  rs_put ha hb h hH hn k
theorem rs_seq (M : St → Hp → Prop) (h : ∀ E' : Ends, (∀ σ' H', M σ' H' → E'.nx σ' H') → t E' σ H) (k : ∀ σ' H', M σ' H' → s E σ' H') : tSeq t s E σ H := h _ k
/-- slots: 0 tape, 1 many, 2 prime, 3 cell, 4 found -/
def t_law_draw (K : PySem.W.Frag) : TS := (tSeq (tAsg (tC (.int 2305843009213693951)) (gName 2)) (tSeq (tIfS (tTest (tOp (rLtU K) (rIxU K (tVar 0) (tC (.int 2))) (tVar 1))) (tSeq (tAsg (tC (.int 0)) (gName 3)) (tSeq (tIfS (tTest (tOp rGtI (tCB (rLenU K) (tCons (rIxU K (tVar 0) (tC (.int 0))) tNil)) (tC (.int 0)))) (tAsg (rIxU K (rIxU K (tVar 0) (tC (.int 0))) (tOp rModI (rIxU K (tVar 0) (tC (.int 1))) (tCB (rLenU K) (tCons (rIxU K (tVar 0) (tC (.int 0))) tNil)))) (gName 3)) tNext) (tSeq (tIfS (tOr (tTest (tOp rGeI (rIxU K (tVar 0) (tC (.int 1))) (tCB (rLenU K) (tCons (rIxU K (tVar 0) (tC (.int 0))) tNil)))) (tTest (tOp (rLtU K) (tVar 3) (tOp rPowI (tC (.int 10)) (tC (.int 18)))))) (tSeq (tAsg (tOp rModI (tOp (rAddU K) (tVar 3) (tOp (rMulU K) (tC (.int 1000003)) (rIxU K (tVar 0) (tC (.int 1))))) (tVar 2)) (gName 3)) (tSeq (tAsg (tOp rModI (tOp (rAddU K) (tOp (rAddU K) (tOp (rMulU K) (tVar 3) (tVar 3)) (tOp (rMulU K) (tC (.int 1181783497276652981)) (tVar 3))) (tC (.int 2049848353892358983))) (tVar 2)) (gName 3)) (tAsg (tOp rModI (tOp (rAddU K) (tOp (rMulU K) (tVar 3) (tVar 3)) (tC (.int 1442695040888963407))) (tVar 2)) (gName 3)))) tNext) (tSeq (sPutU (tVar 0) (tC (.int 1)) (tOp (rAddU K) (rIxU K (tVar 0) (tC (.int 1))) (tC (.int 1)))) (sPutU (tVar 0) (tC (.int 2)) (tVar 3)))))) tNext) (tSeq (tAsg (tOp rModI (rIxU K (tVar 0) (tC (.int 2))) (tVar 1)) (gName 4)) (tSeq (sPutU (tVar 0) (tC (.int 2)) (tOp rDivI (rIxU K (tVar 0) (tC (.int 2))) (tVar 1))) (tRet (tVar 4))))))
def sp_law_draw (K : PySem.W.Frag) : Sp := spP K false (fun many : Int => [.tp, .d (.int many)]) (fun many => 0 < many ∧ many < 2 ^ 60) (fun many d => ∃ r, d = .int r ∧ 0 ≤ r ∧ r < many)
/-- the heap while the tape is drawn on -/
def TH (H0 : Hp) (a b : Addr) (p c : Int) (H : Hp) : Prop := H a = some (.lst [.ref b, .int p, .int c]) ∧ ∀ x, x ≠ a → H x = H0 x
theorem TH.put {H0 : Hp} {a b : Addr} {p c p' c' : Int} (h : TH H0 a b p c H) : TH H0 a b p' c' (upd H a (.lst [.ref b, .int p', .int c'])) := ⟨upd_same, fun x n => by rw [upd_ne n]; exact h.2 x n⟩
theorem raw_draw {H0 : Hp} {a b : Addr} {p c many : Int} {ns : List Int} {Q : VK} (hab : b ≠ a) (hb : Rd H0 b (.lst (ns.map V.int))) (h0 : 0 ≤ p) (hm : 0 < many) (hm2 : many < 2 ^ 60) (th : TH H0 a b p c H)
    (k : ∀ p' c' r H', 0 ≤ p' → TH H0 a b p' c' H' → 0 ≤ r → r < many → Q (.int r) H') : t_law_draw K { nx := fun _ H' => Q .non H', rt := Q } [some (.ref a), some (.int many), none, none, none] H := by
  have scr : ∀ {H p c}, TH H0 a b p c H → SqL K H b (ns.map V.int) := fun {H p c} th => by
    have e := th.2 b hab
    rcases hb with h | ⟨o, h⟩
    · exact .inl (.inl (by rw [e]; exact h))
    · exact .inl (.inr ⟨o, by rw [e]; exact h⟩)
  have tap : ∀ {H p c}, TH H0 a b p c H → SqL K H a [.ref b, .int p, .int c] := fun {H p c} th => .inl (.inl th.1)
  refine rs_let pv_c ?_
  refine rs_seq (fun σ' H' => ∃ p' c' x, 0 ≤ p' ∧ TH H0 a b p' c' H' ∧ σ' = [some (.ref a), some (.int many), some (.int 2305843009213693951), x, none]) (fun E' hE => ?_) fun σ' H' hM => ?_
  · refine rs_if (pb_test (pv_lt (pv_ix (pv_v rfl) pv_c (tap th) rfl) (pv_v rfl))) (fun _ => ?_) fun _ => hE _ _ ⟨p, c, none, h0, th, rfl⟩
    refine rs_let pv_c ?_
    have one : ∀ x : Option V, Pv (rIxU K (tVar 0) (tC (.int 1))) [some (.ref a), some (.int many), some (.int 2305843009213693951), x, none] H (.int p) := fun x => pv_ix (pv_v rfl) pv_c (tap th) rfl
    have nought : ∀ x : Option V, Pv (rIxU K (tVar 0) (tC (.int 0))) [some (.ref a), some (.int many), some (.int 2305843009213693951), x, none] H (.ref b) := fun x => pv_ix (pv_v rfl) pv_c (tap th) rfl
    have len : ∀ x : Option V, Pv (tCB (rLenU K) (tCons (rIxU K (tVar 0) (tC (.int 0))) tNil)) [some (.ref a), some (.int many), some (.int 2305843009213693951), x, none] H (.int (ns.length : Int)) := fun x => by
      have z := pv_len (nought x) (scr th)
      rw [List.length_map] at z
      exact z
    refine rs_seq (fun σ' H' => H' = H ∧ ∃ n : Int, σ' = [some (.ref a), some (.int many), some (.int 2305843009213693951), some (.int n), none]) (fun E' hE => ?_) fun σ' H' hM => ?_
    · refine rs_if (pb_test (pv_gt (len _) pv_c)) (fun hb => ?_) fun _ => hE _ _ ⟨rfl, 0, rfl⟩
      have hl : 0 < ns.length := by simpa using hb
      obtain ⟨m, hm⟩ : ∃ m : Nat, p % (ns.length : Int) = (m : Int) := ⟨(p % (ns.length : Int)).toNat, by
        have h2 := Int.emod_nonneg p (b := (ns.length : Int)) (by omega)
        omega⟩
      have hi : m < ns.length := by
        have h1 := Int.emod_lt_of_pos p (b := (ns.length : Int)) (by omega)
        omega
      refine rs_set (v := .int ns[m]) (pv_ix (nought _) (pv_mod (one _) (len _) (by omega)) (scr th) ?_) (hE _ _ ⟨rfl, _, rfl⟩)
      rw [hm]
      refine atI_nat ?_
      rw [List.getElem?_map, List.getElem?_eq_getElem hi]
      rfl
    · obtain ⟨e1, n, e2⟩ := hM
      subst e1 e2
      refine rs_seq (fun σ' H2 => H2 = H' ∧ ∃ n : Int, σ' = [some (.ref a), some (.int many), some (.int 2305843009213693951), some (.int n), none]) (fun E' hE => ?_) fun σ' H2 hM => ?_
      · refine rs_if (pb_or (pb_test (pv_ge (one _) (len _))) (pb_test (pv_lt (pv_v rfl) (pv_pow pv_c pv_c ⟨by decide, by decide, by decide⟩)))) (fun _ => ?_) fun _ => hE _ _ ⟨rfl, n, rfl⟩
        refine rs_let (pv_mod (pv_add (pv_v rfl) (pv_mul pv_c (one _) (.of_left (by decide)))) (pv_v rfl) (by decide)) ?_
        generalize hx : (n + 1000003 * p) % 2305843009213693951 = x
        have x1 : x.natAbs < 2 ^ 61 := by
          have := Int.emod_lt_of_pos (n + 1000003 * p) (b := 2305843009213693951) (by decide)
          have := Int.emod_nonneg (n + 1000003 * p) (b := 2305843009213693951) (by decide)
          have e : (2 : Nat) ^ 61 = 2305843009213693952 := by decide
          omega
        refine rs_let (pv_mod (pv_add (pv_add (pv_mul (pv_v rfl) (pv_v rfl) (mul_ok 61 61 x1 x1 (by decide) (by decide) (by decide))) (pv_mul pv_c (pv_v rfl) (.of_left (by decide)))) pv_c) (pv_v rfl) (by decide)) ?_
        generalize hy : (x * x + 1181783497276652981 * x + 2049848353892358983) % 2305843009213693951 = y
        have y1 : y.natAbs < 2 ^ 61 := by
          have := Int.emod_lt_of_pos (x * x + 1181783497276652981 * x + 2049848353892358983) (b := 2305843009213693951) (by decide)
          have := Int.emod_nonneg (x * x + 1181783497276652981 * x + 2049848353892358983) (b := 2305843009213693951) (by decide)
          have e : (2 : Nat) ^ 61 = 2305843009213693952 := by decide
          omega
        exact rs_set (pv_mod (pv_add (pv_mul (pv_v rfl) (pv_v rfl) (mul_ok 61 61 y1 y1 (by decide) (by decide) (by decide))) pv_c) (pv_v rfl) (by decide)) (hE _ _ ⟨rfl, _, rfl⟩)
      · obtain ⟨e1, n, e2⟩ := hM
        subst e1 e2
        refine rs_putq (n := 1) (pv_v rfl) pv_c (pv_add (one _) pv_c) th.1 rfl ?_
        have th2 := th.put (p' := p + 1) (c' := c)
        exact rs_put (n := 2) (pv_v rfl) pv_c (pv_v rfl) th2.1 rfl (hE _ _ ⟨p + 1, n, _, by omega, th2.put, rfl⟩)
  · obtain ⟨p', c', x, hp, th', e⟩ := hM
    subst e
    refine rs_let (pv_mod (pv_ix (pv_v rfl) pv_c (tap th') rfl) (pv_v rfl) hm) ?_
    refine rs_putq (n := 2) (pv_v rfl) pv_c (pv_div (pv_ix (pv_v rfl) pv_c (tap th') rfl) (pv_v rfl) (div_w (b := 60) hm (by omega) (by decide))) th'.1 rfl ?_
    exact ⟨_, rfl, k p' (c' / many) (c' % many) _ hp th'.put (Int.emod_nonneg _ (by omega)) (Int.emod_lt_of_pos _ hm)⟩
theorem run_law_draw : ∀ vs H Q E, sp_law_draw K vs H Q E → t_law_draw K { nx := fun _ H' => Q .non H', rt := Q } (L2.start ["tape", "many", "prime", "cell", "found"] vs) H := fun vs H Q E ⟨many, w, hw, ok, _, ar, ⟨hm, hm2⟩, g⟩ => by
  subst hw
  obtain ⟨v, u, e, ⟨a, ea, ht⟩, ru⟩ := ars_two ar
  subst e ea
  rw [show u = .int many from ru]
  obtain ⟨hI, b, p, c, ns, hH, rd, h0, hl⟩ := ok.tape a ht
  have hab : b ≠ a := fun z => by
    subst z
    rcases rd with h | ⟨o, h⟩ <;> rw [hI] at h <;> cases h
  refine raw_draw (H0 := w.H) (ns := ns) hab (rd_same ok.sub rd) h0 hm hm2 ⟨hH, fun _ _ => rfl⟩ fun p' c' r H' hp th r0 r1 => ?_
  refine g (.int r) { w with H := H' } (.int r) ⟨rfl, rfl, fun _ _ h => h, fun x o e n => ?_, fun x e _ => e, fun x e => ?_⟩ ⟨fun x o e => ?_, fun x e => ?_, fun e => ?_⟩ rfl ⟨r, rfl, r0, r1⟩
  · show H' x = some o
    rw [th.2 x fun z => n (by rw [ht, z])]
    exact e
  · have e : H' x = none := e
    by_cases z : x = a
    · rw [z, th.1] at e; cases e
    · rw [th.2 x z] at e; exact e
  · show H' x = some o
    have nx : x ≠ a := ne_of_none e hI
    rw [th.2 x nx]
    exact ok.sub _ _ e
  · have e : w.tp = some x := e
    rw [ht] at e
    cases e
    exact ⟨hI, b, p', c', ns, th.1, rd, hp, hl⟩
  · intro x o
    by_cases z : x = a
    · subst z
      refine ⟨fun es q => ?_, fun es q => ?_⟩
      · have q : H' x = _ := q
        rw [th.1] at q
        cases q
      · have q : H' x = _ := q
        rw [th.1] at q
        cases q
    · have q := ok.nolk e x o
      rw [← th.2 x z] at q
      exact q
end
end RF

set_option Elab.async false
set_option linter.all false
set_option maxRecDepth 100000
set_option maxHeartbeats 4000000
set_option autoImplicit false
set_option exponentiation.threshold 6000
namespace RF
open PySem L2

/-! ### fractions: sizes -/
/-- top and bottom not above A -/
def Bq (A : Nat) (q : Rat) : Prop := q.num.natAbs ≤ A ∧ q.den ≤ A
def Small (q : Rat) : Prop := q.num.natAbs < 2 ^ 2000 ∧ q.den < 2 ^ 2000
theorem Bq.small {A : Nat} {q : Rat} (h : Bq A q) (hA : A < 2 ^ 2000) : Small q := ⟨Nat.lt_of_le_of_lt h.1 hA, Nat.lt_of_le_of_lt h.2 hA⟩
theorem Bq.mono {A B : Nat} {q : Rat} (h : Bq A q) (hA : A ≤ B) : Bq B q := ⟨Nat.le_trans h.1 hA, Nat.le_trans h.2 hA⟩
theorem mk_le (t : Int) (b : Nat) (h : b ≠ 0) : (mkRat t b).num.natAbs ≤ t.natAbs ∧ (mkRat t b).den ≤ b := by
  obtain ⟨e1, e2⟩ := frac_mk t b h
  rw [e1, e2]
  refine ⟨?_, Nat.div_le_self _ _⟩
  rw [Int.natAbs_ediv_of_dvd (Int.ofNat_dvd_left.mpr (Nat.gcd_dvd_left _ _))]
  exact Nat.div_le_self _ _
theorem Bq.mk {A : Nat} {t : Int} {b : Nat} (h : b ≠ 0) (h1 : t.natAbs ≤ A) (h2 : b ≤ A) : Bq A (mkRat t b) := ⟨Nat.le_trans (mk_le t b h).1 h1, Nat.le_trans (mk_le t b h).2 h2⟩
theorem Rat.sub_def'' (a b : Rat) : a - b = mkRat (a.num * ↑b.den - b.num * ↑a.den) (a.den * b.den) := by rw [Rat.sub_def, Rat.normalize_eq_mkRat]
theorem cross_le {A B : Nat} {a b : Rat} (ha : Bq A a) (hb : Bq B b) : (a.num * (b.den : Int)).natAbs ≤ A * B ∧ (b.num * (a.den : Int)).natAbs ≤ A * B ∧ a.den * b.den ≤ A * B := by
  refine ⟨?_, ?_, Nat.mul_le_mul ha.2 hb.2⟩
  · rw [Int.natAbs_mul, Int.natAbs_natCast]; exact Nat.mul_le_mul ha.1 hb.2
  · rw [Int.natAbs_mul, Int.natAbs_natCast, Nat.mul_comm A B]; exact Nat.mul_le_mul hb.1 ha.2
theorem dens_ne (a b : Rat) : a.den * b.den ≠ 0 := Nat.mul_ne_zero a.den_nz b.den_nz
theorem Bq.add {A B : Nat} {a b : Rat} (ha : Bq A a) (hb : Bq B b) : Bq (2 * (A * B)) (a + b) := by
  obtain ⟨h1, h2, h3⟩ := cross_le ha hb
  rw [Rat.add_def']
  exact .mk (dens_ne a b) (by omega) (by omega)
theorem Bq.sub {A B : Nat} {a b : Rat} (ha : Bq A a) (hb : Bq B b) : Bq (2 * (A * B)) (a - b) := by
  obtain ⟨h1, h2, h3⟩ := cross_le ha hb
  rw [Rat.sub_def'']
  exact .mk (dens_ne a b) (by omega) (by omega)
theorem Bq.nat (n : Nat) (h : 1 ≤ n) : Bq n (n : Rat) := ⟨by show (((n : Int) : Rat)).num.natAbs ≤ n; rw [Rat.num_intCast]; omega, by show (((n : Int) : Rat)).den ≤ n; rw [Rat.den_intCast]; exact h⟩
def absQ (q : Rat) : Rat := if q < 0 then -q else q
def maxQ (a b : Rat) : Rat := if a < b then b else a
theorem abs_num (q : Rat) : (absQ q).num = (if q.num < 0 then -q.num else q.num) ∧ (absQ q).den = q.den := by
  unfold absQ
  have e : q < 0 ↔ q.num < 0 := by rw [← Rat.not_le, ← Int.not_le, Rat.num_nonneg]
  by_cases h : q < 0
  · rw [if_pos h, if_pos (e.mp h), Rat.neg_num, Rat.neg_den]; exact ⟨rfl, rfl⟩
  · rw [if_neg h, if_neg (fun z => h (e.mpr z))]; exact ⟨rfl, rfl⟩
theorem fD_abs (q : Rat) : fD (absQ q) = .tup [.int (if q.num < 0 then -q.num else q.num), .int (q.den : Int)] := by
  unfold fD
  rw [(abs_num q).1, (abs_num q).2]
theorem Bq.abs {A : Nat} {q : Rat} (h : Bq A q) : Bq A (absQ q) := by
  unfold Bq
  rw [(abs_num q).1, (abs_num q).2]
  refine ⟨?_, h.2⟩
  have := h.1
  split <;> omega
theorem Bq.max {A : Nat} {a b : Rat} (h : Bq A a) (k : Bq A b) : Bq A (maxQ a b) := by
  unfold maxQ
  split <;> assumption
theorem Bq.zero {A : Nat} (h : 1 ≤ A) : Bq A 0 := ⟨Nat.zero_le _, h⟩
theorem fD_int (n : Int) : fD (n : Rat) = .tup [.int n, .int 1] := by
  unfold fD
  rw [Rat.num_intCast, Rat.den_intCast]
  rfl
theorem fD_nat (n : Nat) : fD (n : Rat) = .tup [.int (n : Int), .int 1] := fD_int (n : Int)
theorem fD_zero : fD 0 = .tup [.int 0, .int 1] := rfl
theorem fD_inj {a b : Rat} (h : fD a = fD b) : a = b := by
  unfold fD at h
  injection h with h
  injection h with h1 h2
  injection h2 with h2 _
  injection h1 with h1
  injection h2 with h2
  exact Rat.ext h1 (by omega)
theorem less_dec (a b : Rat) : decide (a.num * (b.den : Int) < b.num * (a.den : Int)) = decide (a < b) := by
  rw [Bool.eq_iff_iff, decide_eq_true_iff, decide_eq_true_iff]
  exact (Rat.lt_iff a b).symm
section
variable {K : PySem.W.Frag} {lk : Bool} {ρ : List Sl} {ta tb te : TE} {a b q : Rat}
theorem ev_top (h : EvD K lk te ρ (fD q)) : EvD K lk (rIxU K te (tC (.int 0))) ρ (.int q.num) := eu_ixT h ev_int rfl
theorem ev_bot (h : EvD K lk te ρ (fD q)) : EvD K lk (rIxU K te (tC (.int 1))) ρ (.int (q.den : Int)) := eu_ixT h ev_int rfl
theorem small_mul {i j : Int} (hi : i.natAbs < 2 ^ 2000) (hj : j.natAbs < 2 ^ 2000) : IntMulOk i j := mul_ok 2000 2000 hi hj (by decide) (by decide) (by decide)
theorem ev_cross (ha : EvD K lk ta ρ (fD a)) (hb : EvD K lk tb ρ (fD b)) (sa : Small a) (sb : Small b) : EvD K lk (tOp (rMulU K) (rIxU K ta (tC (.int 0))) (rIxU K tb (tC (.int 1)))) ρ (.int (a.num * (b.den : Int))) := eu_mul (ev_top ha) (ev_bot hb) (small_mul sa.1 (by simpa using sb.2))
theorem ev_dens (ha : EvD K lk ta ρ (fD a)) (hb : EvD K lk tb ρ (fD b)) (sa : Small a) (sb : Small b) : EvD K lk (tOp (rMulU K) (rIxU K ta (tC (.int 1))) (rIxU K tb (tC (.int 1)))) ρ (.int (((a.den * b.den : Nat) : Nat) : Int)) := ev_is (eu_mul (ev_bot ha) (ev_bot hb) (small_mul (by simpa using sa.2) (by simpa using sb.2))) (by rw [Int.natCast_mul])
theorem dens_lt (sa : Small a) (sb : Small b) : a.den * b.den < 2 ^ 5000 := by
  have h : a.den * b.den < 2 ^ 2000 * 2 ^ 2000 := Nat.mul_lt_mul'' sa.2 sb.2
  rw [← Nat.pow_add] at h
  exact Nat.lt_of_lt_of_le h (Nat.pow_le_pow_right (by decide) (by decide))
abbrev Q2 : Type := Rat × Rat
def encQ2 (x : Q2) : List Ar := [.d (fD x.1), .d (fD x.2)]
def preQ2 (x : Q2) : Prop := Small x.1 ∧ Small x.2
/-! plus, minus -/
def sp_plus (K : PySem.W.Frag) : Sp := spP K false encQ2 preQ2 (fun x d => d = fD (x.1 + x.2))
def sp_minus (K : PySem.W.Frag) : Sp := spP K false encQ2 preQ2 (fun x d => d = fD (x.1 - x.2))
def sp_is_less (K : PySem.W.Frag) : Sp := spP K false encQ2 preQ2 (fun x d => d = .bl (decide (x.1 < x.2)))
/-- slots: 0 one, 1 other -/
def t_plus (K : PySem.W.Frag) : TS := (tRet (tCall (sp_fraction K) [] E0 (tCons (tOp (rAddU K) (tOp (rMulU K) (rIxU K (tVar 0) (tC (.int 0))) (rIxU K (tVar 1) (tC (.int 1)))) (tOp (rMulU K) (rIxU K (tVar 1) (tC (.int 0))) (rIxU K (tVar 0) (tC (.int 1))))) (tCons (tOp (rMulU K) (rIxU K (tVar 0) (tC (.int 1))) (rIxU K (tVar 1) (tC (.int 1)))) tNil))))
/-- slots: 0 one, 1 other -/
def t_minus (K : PySem.W.Frag) : TS := (tRet (tCall (sp_fraction K) [] E0 (tCons (tOp rSubI (tOp (rMulU K) (rIxU K (tVar 0) (tC (.int 0))) (rIxU K (tVar 1) (tC (.int 1)))) (tOp (rMulU K) (rIxU K (tVar 1) (tC (.int 0))) (rIxU K (tVar 0) (tC (.int 1))))) (tCons (tOp (rMulU K) (rIxU K (tVar 0) (tC (.int 1))) (rIxU K (tVar 1) (tC (.int 1)))) tNil))))
/-- slots: 0 one, 1 other -/
def t_is_less (K : PySem.W.Frag) : TS := (tRet (tOp (rLtU K) (tOp (rMulU K) (rIxU K (tVar 0) (tC (.int 0))) (rIxU K (tVar 1) (tC (.int 1)))) (tOp (rMulU K) (rIxU K (tVar 1) (tC (.int 0))) (rIxU K (tVar 0) (tC (.int 1))))))
theorem st_plus (lk : Bool) (x : Q2) (h : preQ2 x) : StS K lk (t_plus K) (startS 2 (encQ2 x)) (Fn fun d => d = fD (x.1 + x.2)) := by
  obtain ⟨sa, sb⟩ := h
  refine st_ret (ev_call ((x.1.num * (x.2.den : Int) + x.2.num * (x.1.den : Int), ((x.1.den * x.2.den : Nat) : Int)) : TI2) (ea_cons (eu_add (ev_cross (ev_v rfl) (ev_v rfl) sa sb) (ev_cross (ev_v rfl) (ev_v rfl) sb sa)) (ea_cons (ev_dens (ev_v rfl) (ev_v rfl) sa sb) ea_nil)) ⟨?_, ?_⟩) fun d e => ?_
  · have := dens_ne x.1 x.2
    dsimp only
    omega
  · exact dens_lt sa sb
  · rw [show d = _ from e, Rat.add_def']
    rfl
theorem st_minus (lk : Bool) (x : Q2) (h : preQ2 x) : StS K lk (t_minus K) (startS 2 (encQ2 x)) (Fn fun d => d = fD (x.1 - x.2)) := by
  obtain ⟨sa, sb⟩ := h
  refine st_ret (ev_call ((x.1.num * (x.2.den : Int) - x.2.num * (x.1.den : Int), ((x.1.den * x.2.den : Nat) : Int)) : TI2) (ea_cons (ev_sub (ev_cross (ev_v rfl) (ev_v rfl) sa sb) (ev_cross (ev_v rfl) (ev_v rfl) sb sa)) (ea_cons (ev_dens (ev_v rfl) (ev_v rfl) sa sb) ea_nil)) ⟨?_, ?_⟩) fun d e => ?_
  · have := dens_ne x.1 x.2
    dsimp only
    omega
  · exact dens_lt sa sb
  · rw [show d = _ from e, Rat.sub_def'']
    rfl
theorem st_is_less (lk : Bool) (x : Q2) (h : preQ2 x) : StS K lk (t_is_less K) (startS 2 (encQ2 x)) (Fn fun d => d = .bl (decide (x.1 < x.2))) := by
  obtain ⟨sa, sb⟩ := h
  refine st_ret (eu_lt (ev_cross (ev_v rfl) (ev_v rfl) sa sb) (ev_cross (ev_v rfl) (ev_v rfl) sb sa)) fun d e => ?_
  show d = _
  rw [e, less_dec]
theorem run_plus : ∀ vs H Q E, sp_plus K vs H Q E → t_plus K { nx := fun _ H' => Q .non H', rt := Q } (L2.start ["one", "other"] vs) H := sp_run 2 rfl fun lk _ x h => st_plus lk x h
theorem run_minus : ∀ vs H Q E, sp_minus K vs H Q E → t_minus K { nx := fun _ H' => Q .non H', rt := Q } (L2.start ["one", "other"] vs) H := sp_run 2 rfl fun lk _ x h => st_minus lk x h
theorem run_is_less : ∀ vs H Q E, sp_is_less K vs H Q E → t_is_less K { nx := fun _ H' => Q .non H', rt := Q } (L2.start ["one", "other"] vs) H := sp_run 2 rfl fun lk _ x h => st_is_less lk x h
/-! far, whole, greater -/
def sp_far (K : PySem.W.Frag) : Sp := spP K false encQ2 preQ2 (fun x d => d = fD (absQ (x.1 - x.2)))
/-- slots: 0 one, 1 other, 2 found -/
def t_far (K : PySem.W.Frag) : TS := (tSeq (tAsg (tCall (sp_minus K) [] E0 (tCons (tVar 0) (tCons (tVar 1) tNil))) (gName 2)) (tRet (tTupU (tCons (tCB rAbs (tCons (rIxU K (tVar 2) (tC (.int 0))) tNil)) (tCons (rIxU K (tVar 2) (tC (.int 1))) tNil)))))
theorem ev_abs (h : EvD K lk te ρ (fD q)) : EvD K lk (tTupU (tCons (tCB rAbs (tCons (rIxU K te (tC (.int 0))) tNil)) (tCons (rIxU K te (tC (.int 1))) tNil))) ρ (fD (absQ q)) := by
  rw [fD_abs]
  exact eu_tup (ds := [.int _, .int _]) (ea_cons (eu_abs (ev_top h)) (ea_cons (ev_bot h) ea_nil))
theorem st_far (lk : Bool) (x : Q2) (h : preQ2 x) : StS K lk (t_far K) (startS 3 (encQ2 x)) (Fn fun d => d = fD (absQ (x.1 - x.2))) := by
  refine st_let (ev_call x (ea_cons (ev_v rfl) (ea_cons (ev_v rfl) ea_nil)) h) fun d e => ?_
  have e : d = fD (x.1 - x.2) := e
  subst e
  exact st_ret (ev_abs (ev_v rfl)) fun d e => e
theorem run_far : ∀ vs H Q E, sp_far K vs H Q E → t_far K { nx := fun _ H' => Q .non H', rt := Q } (L2.start ["one", "other", "found"] vs) H := sp_run 3 rfl fun lk _ x h => st_far lk x h
def sp_whole (K : PySem.W.Frag) : Sp := spP K false (fun n : Int => [.d (.int n)]) (fun _ => True) (fun n d => d = fD (n : Rat))
/-- slots: 0 number -/
def t_whole (K : PySem.W.Frag) : TS := (tRet (tTupU (tCons (tVar 0) (tCons (tC (.int 1)) tNil))))
theorem ev_whole {n : Int} (h : EvD K lk te ρ (.int n)) : EvD K lk (tTupU (tCons te (tCons (tC (.int 1)) tNil))) ρ (fD (n : Rat)) := by
  rw [fD_int]
  exact eu_tup (ds := [.int _, .int _]) (ea_cons h (ea_cons ev_int ea_nil))
theorem st_whole (lk : Bool) (n : Int) : StS K lk (t_whole K) (startS 1 [.d (.int n)]) (Fn fun d => d = fD (n : Rat)) := st_ret (ev_whole (ev_v rfl)) fun d e => e
theorem run_whole : ∀ vs H Q E, sp_whole K vs H Q E → t_whole K { nx := fun _ H' => Q .non H', rt := Q } (L2.start ["number"] vs) H := sp_run 1 rfl fun lk _ n _ => st_whole lk n
def sp_greater (K : PySem.W.Frag) : Sp := spP K false encQ2 preQ2 (fun x d => d = fD (maxQ x.1 x.2))
/-- slots: 0 one, 1 other -/
def t_greater (K : PySem.W.Frag) : TS := (tRet (tIf (tB (tCall (sp_is_less K) [] E0 (tCons (tVar 0) (tCons (tVar 1) tNil)))) (tVar 1) (tVar 0)))
theorem ev_less {sp : Sp} (hsp : sp = sp_is_less K) (ha : EvD K lk ta ρ (fD a)) (hb : EvD K lk tb ρ (fD b)) (sa : Small a) (sb : Small b) : EvB K lk (tB (tCall sp [] E0 (tCons ta (tCons tb tNil)))) ρ (decide (a < b)) := by
  subst hsp
  exact et_B (ev_call ((a, b) : Q2) (ea_cons ha (ea_cons hb ea_nil)) ⟨sa, sb⟩)
theorem ev_maxQ {sp : Sp} (hsp : sp = sp_is_less K) (ha : EvD K lk ta ρ (fD a)) (hb : EvD K lk tb ρ (fD b)) (sa : Small a) (sb : Small b) : EvD K lk (tIf (tB (tCall sp [] E0 (tCons ta (tCons tb tNil)))) tb ta) ρ (fD (maxQ a b)) := by
  refine ev_if (ev_less hsp ha hb sa sb) (fun h => ?_) fun h => ?_
  · unfold maxQ; rw [if_pos (of_decide_eq_true h)]; exact hb
  · unfold maxQ; rw [if_neg (of_decide_eq_false h)]; exact ha
theorem st_greater (lk : Bool) (x : Q2) (h : preQ2 x) : StS K lk (t_greater K) (startS 2 (encQ2 x)) (Fn fun d => d = fD (maxQ x.1 x.2)) := st_ret (ev_maxQ rfl (ev_v rfl) (ev_v rfl) h.1 h.2) fun d e => e
theorem run_greater : ∀ vs H Q E, sp_greater K vs H Q E → t_greater K { nx := fun _ H' => Q .non H', rt := Q } (L2.start ["one", "other"] vs) H := sp_run 2 rfl fun lk _ x h => st_greater lk x h
/-! the same in the laws -/
def sp_law_common (K : PySem.W.Frag) : Sp := spP K false (fun x : Nat × Nat => [.d (.int x.1), .d (.int x.2)]) (fun _ => True) (fun x d => d = .int (x.1.gcd x.2 : Nat))
/-- slots: 0 one, 1 other -/
def t_law_common (K : PySem.W.Frag) : TS := (tSeq (tWhile (tTest (tOp (rNeU K) (tVar 0) (tC (.int 0)))) (tPar 0 1 (tCons (tOp rModI (tVar 1) (tVar 0)) (tCons (tVar 0) tNil)))) (tRet (tVar 1)))
theorem st_law_common (lk : Bool) (x : Nat × Nat) : StS K lk (t_law_common K) (startS 2 [.d (.int x.1), .d (.int x.2)]) (Fn fun d => d = .int (x.1.gcd x.2 : Nat)) := by
  obtain ⟨m0, n0⟩ := x
  dsimp only
  refine st_whileq (fun m ρ => ∃ n : Nat, ρ = [.dat (.int (m : Int)), .dat (.int (n : Int))] ∧ m.gcd n = m0.gcd n0) m0 ⟨n0, rfl, rfl⟩ (fun ρ => ρ = [.dat (.int 0), .dat (.int ((m0.gcd n0 : Nat) : Int))]) (fun m ρ h => ?_) fun ρ e => ?_
  · obtain ⟨n, rfl, hg⟩ := h
    refine ⟨!decide ((m : Int) = 0), et_test (eu_neI (ev_v rfl) ev_int), fun hb => ?_, fun hb => ?_⟩
    · have hm : 0 < m := by
        simp at hb
        omega
      refine st_par (a := .int ((n % m : Nat) : Int)) (b := .int (m : Int)) (ea_cons (ev_is (ev_mod (ev_v rfl) (ev_v rfl) (by omega)) (by simp)) (ea_cons (ev_v rfl) ea_nil)) ?_
      exact ⟨n % m, Nat.mod_lt _ hm, m, rfl, by rw [← hg, Nat.gcd_rec m n]⟩
    · have hm : m = 0 := by
        simp at hb
        omega
      subst hm
      rw [Nat.gcd_zero_left] at hg
      subst hg
      rfl
  · subst e
    exact st_ret (ev_v rfl) fun d e => e
theorem run_law_common : ∀ vs H Q E, sp_law_common K vs H Q E → t_law_common K { nx := fun _ H' => Q .non H', rt := Q } (L2.start ["one", "other"] vs) H := sp_run 2 rfl fun lk _ x _ => st_law_common lk x
def sp_law_frac (K : PySem.W.Frag) : Sp := sp_fraction K
/-- slots: 0 top, 1 bottom, 2 share -/
def t_law_frac (K : PySem.W.Frag) : TS := (tSeq (tAsg (tCall (sp_law_common K) [] E0 (tCons (tCB rAbs (tCons (tVar 0) tNil)) (tCons (tVar 1) tNil))) (gName 2)) (tRet (tTupU (tCons (tOp rDivI (tVar 0) (tVar 2)) (tCons (tOp rDivI (tVar 1) (tVar 2)) tNil)))))
theorem st_law_frac (lk : Bool) (x : TI2) (h0 : 0 < x.2) (hb : x.2.natAbs < 2 ^ 5000) : StS K lk (t_law_frac K) (startS 3 [.d (.int x.1), .d (.int x.2)]) (Fn fun d => d = fD (mkRat x.1 x.2.toNat)) := by
  obtain ⟨t, b⟩ := x
  dsimp only at h0 hb ⊢
  obtain ⟨n, rfl⟩ : ∃ n : Nat, b = n := ⟨b.toNat, by omega⟩
  have hn : 0 < n := by omega
  have hnb : n < 2 ^ 5000 := by simpa using hb
  refine st_let (ev_call ((t.natAbs, n) : Nat × Nat) (ea_cons (ev_is (eu_abs (ev_v rfl)) ?_) (ea_cons (ev_v rfl) ea_nil)) True.intro) fun d e => ?_
  · congr 1
    split <;> omega
  have e : d = .int ((t.natAbs.gcd n : Nat) : Int) := e
  subst e
  have hg0 : 0 < t.natAbs.gcd n := Nat.gcd_pos_of_pos_right _ hn
  have hgl : t.natAbs.gcd n ≤ n := Nat.gcd_le_right _ hn
  have hc : ∀ i : Int, CDivW i ((t.natAbs.gcd n : Nat) : Int) := fun i => div_w (b := 5000) (by omega) (by simp; omega) (by decide)
  refine st_ret (eu_tup (ds := [.int (t / ((t.natAbs.gcd n : Nat) : Int)), .int ((n : Int) / ((t.natAbs.gcd n : Nat) : Int))]) (ea_cons (ev_divW (ev_v rfl) (ev_v rfl) (hc _)) (ea_cons (ev_divW (ev_v rfl) (ev_v rfl) (hc _)) ea_nil))) fun d e => ?_
  show d = _
  obtain ⟨e1, e2⟩ := frac_mk t n (by omega)
  rw [e, show ((n : Int)).toNat = n by omega]
  unfold fD
  rw [e1, e2]
  rfl
theorem run_law_frac : ∀ vs H Q E, sp_law_frac K vs H Q E → t_law_frac K { nx := fun _ H' => Q .non H', rt := Q } (L2.start ["top", "bottom", "share"] vs) H := sp_run 3 rfl fun lk _ x h => st_law_frac lk x h.1 h.2
def sp_law_sum (K : PySem.W.Frag) : Sp := sp_plus K
def sp_law_less (K : PySem.W.Frag) : Sp := sp_minus K
def sp_law_below (K : PySem.W.Frag) : Sp := sp_is_less K
/-- slots: 0 one, 1 other -/
def t_law_sum (K : PySem.W.Frag) : TS := (tRet (tCall (sp_law_frac K) [] E0 (tCons (tOp (rAddU K) (tOp (rMulU K) (rIxU K (tVar 0) (tC (.int 0))) (rIxU K (tVar 1) (tC (.int 1)))) (tOp (rMulU K) (rIxU K (tVar 1) (tC (.int 0))) (rIxU K (tVar 0) (tC (.int 1))))) (tCons (tOp (rMulU K) (rIxU K (tVar 0) (tC (.int 1))) (rIxU K (tVar 1) (tC (.int 1)))) tNil))))
/-- slots: 0 one, 1 other -/
def t_law_less (K : PySem.W.Frag) : TS := (tRet (tCall (sp_law_frac K) [] E0 (tCons (tOp rSubI (tOp (rMulU K) (rIxU K (tVar 0) (tC (.int 0))) (rIxU K (tVar 1) (tC (.int 1)))) (tOp (rMulU K) (rIxU K (tVar 1) (tC (.int 0))) (rIxU K (tVar 0) (tC (.int 1))))) (tCons (tOp (rMulU K) (rIxU K (tVar 0) (tC (.int 1))) (rIxU K (tVar 1) (tC (.int 1)))) tNil))))
/-- slots: 0 one, 1 other -/
def t_law_below (K : PySem.W.Frag) : TS := (tRet (tOp (rLtU K) (tOp (rMulU K) (rIxU K (tVar 0) (tC (.int 0))) (rIxU K (tVar 1) (tC (.int 1)))) (tOp (rMulU K) (rIxU K (tVar 1) (tC (.int 0))) (rIxU K (tVar 0) (tC (.int 1))))))
theorem run_law_sum : ∀ vs H Q E, sp_law_sum K vs H Q E → t_law_sum K { nx := fun _ H' => Q .non H', rt := Q } (L2.start ["one", "other"] vs) H := run_plus
theorem run_law_less : ∀ vs H Q E, sp_law_less K vs H Q E → t_law_less K { nx := fun _ H' => Q .non H', rt := Q } (L2.start ["one", "other"] vs) H := run_minus
theorem run_law_below : ∀ vs H Q E, sp_law_below K vs H Q E → t_law_below K { nx := fun _ H' => Q .non H', rt := Q } (L2.start ["one", "other"] vs) H := run_is_less
end
end RF

set_option Elab.async false
set_option linter.all false
set_option maxRecDepth 100000
set_option maxHeartbeats 4000000
set_option autoImplicit false
set_option exponentiation.threshold 6000
namespace RF
open PySem L2

/-! ### rounds -/
abbrev Guest : Type := Str × Int × Int
abbrev Row : Type := List Guest
abbrev Rounds : Type := List Row
def gD (g : Guest) : D := .tup [.str g.1, .int g.2.1, .int g.2.2]
def rowD (r : Row) : D := .tup (r.map gD)
def rsD (R : Rounds) : D := .tup (R.map rowD)
structure WfRow (r : Row) : Prop where
  len : r.length ≤ 8
  ne : r ≠ []
  wt : ∀ g ∈ r, 1 ≤ g.2.1 ∧ g.2.1 ≤ 2 ^ 40
  nd : (r.map (·.1)).Nodup
  ok : ∀ g ∈ r, PyData.strOk g.1 = true
  can : ∃ g ∈ r, g.2.2 = 1
/-- each once, in the order of the first places -/
def dd (ks : List Str) : List Str := ks.foldl (fun acc s => if s ∈ acc then acc else acc ++ [s]) []
def allN (R : Rounds) : List Str := R.flatMap fun r => r.map (·.1)
def namesQ (R : Rounds) : List Str := sortS (dd (allN R))
structure Wf (R : Rounds) : Prop where
  len : R.length ≤ 20
  rows : ∀ r ∈ R, WfRow r
  few : (dd (allN R)).length ≤ 40
def wtQ (r : Row) : Int := (r.map (·.2.1)).sum
def mineQ (r : Row) (s : Str) : Int := ((r.filter fun g => decide (g.1 = s)).map (·.2.1)).sum
def partQ (r : Row) (s : Str) : Rat := mkRat (mineQ r s) (wtQ r).toNat
def dueQ (R : Rounds) (s : Str) (k : Nat) : Rat := (R.take k).foldl (fun q r => q + partQ r s) 0
def dueRow (R : Rounds) (s : Str) : List Rat := (List.range R.length).map fun k => dueQ R s (k + 1)
def canQ (r : Row) : List Str := (r.filter fun g => decide (g.2.2 = 1)).map (·.1)
/-! each once -/
theorem dd_go (ks : List Str) : ∀ acc : List Str, acc.Nodup → (ks.foldl (fun acc s => if s ∈ acc then acc else acc ++ [s]) acc).Nodup ∧ ∀ s, s ∈ ks.foldl (fun acc s => if s ∈ acc then acc else acc ++ [s]) acc ↔ s ∈ acc ∨ s ∈ ks := by
  induction ks with
  | nil => intro acc h; exact ⟨h, fun s => by simp⟩
  | cons k ks ih =>
    intro acc h
    have h' : (if k ∈ acc then acc else acc ++ [k]).Nodup := by
      split
      · exact h
      · rename_i hk
        rw [List.nodup_append]
        refine ⟨h, by simp, fun a ha b hb => ?_⟩
        rw [List.mem_singleton.mp hb]
        exact fun e => hk (e ▸ ha)
    obtain ⟨a, b⟩ := ih _ h'
    refine ⟨a, fun s => (b s).trans ?_⟩
    by_cases hk : k ∈ acc
    · rw [if_pos hk, List.mem_cons]
      constructor
      · rintro (z | z)
        · exact .inl z
        · exact .inr (.inr z)
      · rintro (z | z | z)
        · exact .inl z
        · exact .inl (z ▸ hk)
        · exact .inr z
    · rw [if_neg hk, List.mem_cons, List.mem_append, List.mem_singleton]
      constructor
      · rintro ((z | z) | z)
        · exact .inl z
        · exact .inr (.inl z)
        · exact .inr (.inr z)
      · rintro (z | z | z)
        · exact .inl (.inl z)
        · exact .inl (.inr z)
        · exact .inr z
theorem dd_nodup (ks : List Str) : (dd ks).Nodup := (dd_go ks [] .nil).1
theorem dd_mem {ks : List Str} {s : Str} : s ∈ dd ks ↔ s ∈ ks := by
  unfold dd
  rw [(dd_go ks [] .nil).2 s]
  simp
theorem names_mem {R : Rounds} {s : Str} : s ∈ namesQ R ↔ s ∈ allN R := by
  unfold namesQ
  rw [(sortS_perm _).mem_iff, dd_mem]
theorem names_nodup (R : Rounds) : (namesQ R).Nodup := (sortS_perm _).nodup_iff.mpr (dd_nodup _)
theorem names_len {R : Rounds} (h : Wf R) : (namesQ R).length ≤ 40 := by
  unfold namesQ
  rw [(sortS_perm _).length_eq]
  exact h.few
theorem keys_fold {α : Type} (v : α) : ∀ (ks : List Str) (acc : List (Key × α)) (as : List Str), acc.map (·.1) = as.map Sum.inr → (dFold v acc (ks.map Sum.inr)).map (·.1) = (ks.foldl (fun acc s => if s ∈ acc then acc else acc ++ [s]) as).map Sum.inr
  | [], acc, as, h => h
  | k :: ks, acc, as, h => by
    refine keys_fold v ks (putD acc (Sum.inr k) v) _ ?_
    rw [keys_put, h]
    have e : (Sum.inr k : Key) ∈ as.map Sum.inr ↔ k ∈ as := by
      rw [List.mem_map]
      constructor
      · rintro ⟨x, hx, e⟩; cases e; exact hx
      · intro hx; exact ⟨k, hx, rfl⟩
    show _ = List.map Sum.inr (if k ∈ as then as else as ++ [k])
    by_cases hk : k ∈ as
    · rw [if_pos (e.mpr hk), if_pos hk]
    · rw [if_neg (fun z => hk (e.mp z)), if_neg hk, List.map_append]
      rfl
theorem keys_dd {α : Type} (v : α) (ks : List Str) : (dFold v [] (ks.map (Sum.inr : Str → Key))).map (·.1) = (dd ks).map Sum.inr := keys_fold v ks [] [] rfl
/-! sizes -/
theorem sum_pos : ∀ (r : Row), (∀ g ∈ r, 1 ≤ g.2.1 ∧ g.2.1 ≤ 2 ^ 40) → (r.length : Int) ≤ wtQ r ∧ wtQ r ≤ r.length * 2 ^ 40
  | [], _ => ⟨Int.le_refl _, Int.le_refl _⟩
  | g :: r, h => by
    obtain ⟨a, b⟩ := sum_pos r fun g hg => h g (List.mem_cons_of_mem _ hg)
    obtain ⟨c, d⟩ := h g (by simp)
    have e : wtQ (g :: r) = g.2.1 + wtQ r := by unfold wtQ; rw [List.map_cons, List.sum_cons]
    rw [e, List.length_cons]
    generalize wtQ r = x at *
    have : (2 : Int) ^ 40 = 1099511627776 := by decide
    omega
theorem wt_pos {r : Row} (h : WfRow r) : 0 < wtQ r ∧ wtQ r ≤ 2 ^ 43 := by
  obtain ⟨a, b⟩ := sum_pos r h.wt
  have hl := h.len
  have hp : 0 < r.length := List.length_pos_iff.mpr h.ne
  have e1 : (2 : Int) ^ 40 = 1099511627776 := by decide
  have e2 : (2 : Int) ^ 43 = 8796093022208 := by decide
  omega
theorem mine_le : ∀ (r : Row) (s : Str), (∀ g ∈ r, 1 ≤ g.2.1 ∧ g.2.1 ≤ 2 ^ 40) → 0 ≤ mineQ r s ∧ mineQ r s ≤ wtQ r
  | [], s, _ => ⟨Int.le_refl _, Int.le_refl _⟩
  | g :: r, s, h => by
    obtain ⟨a, b⟩ := mine_le r s fun g hg => h g (List.mem_cons_of_mem _ hg)
    obtain ⟨c, d⟩ := h g (by simp)
    have e : wtQ (g :: r) = g.2.1 + wtQ r := by unfold wtQ; rw [List.map_cons, List.sum_cons]
    have e2 : mineQ (g :: r) s = (if g.1 = s then g.2.1 else 0) + mineQ r s := by
      unfold mineQ
      rw [List.filter_cons]
      by_cases z : g.1 = s
      · rw [if_pos (decide_eq_true z), if_pos z, List.map_cons, List.sum_cons]
      · rw [if_neg (by rw [decide_eq_false z]; decide), if_neg z, Int.zero_add]
    rw [e, e2]
    split <;> omega
theorem part_bq {r : Row} (h : WfRow r) (s : Str) : Bq (2 ^ 43) (partQ r s) := by
  obtain ⟨a, b⟩ := wt_pos h
  obtain ⟨c, d⟩ := mine_le r s h.wt
  have e2 : (2 : Int) ^ 43 = 8796093022208 := by decide
  have e3 : (2 : Nat) ^ 43 = 8796093022208 := by decide
  exact .mk (by omega) (by omega) (by omega)
theorem fold_bq (s : Str) : ∀ (R : Rounds) (q : Rat) (k : Nat), (∀ r ∈ R, WfRow r) → Bq (2 ^ (44 * k)) q → Bq (2 ^ (44 * (k + R.length))) (R.foldl (fun q r => q + partQ r s) q)
  | [], q, k, _, h => h
  | r :: R, q, k, hw, h => by
    have h1 : Bq (2 ^ (44 * (k + 1))) (q + partQ r s) := by
      have z := h.add (part_bq (hw r (by simp)) s)
      have e : 2 * (2 ^ (44 * k) * 2 ^ 43) = 2 ^ (44 * (k + 1)) := by
        rw [Nat.mul_add, Nat.pow_add]
        have : (2 : Nat) ^ (44 * 1) = 2 * 2 ^ 43 := by decide
        rw [this, Nat.mul_left_comm]
      rw [e] at z
      exact z
    have := fold_bq s R _ (k + 1) (fun r hr => hw r (List.mem_cons_of_mem _ hr)) h1
    rw [List.length_cons, show k + (R.length + 1) = k + 1 + R.length by omega]
    exact this
theorem due_bq {R : Rounds} (h : Wf R) (s : Str) (k : Nat) : Bq (2 ^ 880) (dueQ R s k) := by
  have z := fold_bq s (R.take k) 0 0 (fun r hr => h.rows r (List.mem_of_mem_take hr)) (.zero (Nat.le_refl _))
  refine z.mono (Nat.pow_le_pow_right (by decide) ?_)
  have hl := h.len
  have : (R.take k).length ≤ R.length := by rw [List.length_take]; omega
  omega
theorem due_small {R : Rounds} (h : Wf R) (s : Str) (k : Nat) : Small (dueQ R s k) := (due_bq h s k).small (Nat.pow_lt_pow_right (by decide) (by decide))
theorem due_succ {R : Rounds} {s : Str} {k : Nat} {r : Row} (h : R[k]? = some r) : dueQ R s (k + 1) = dueQ R s k + partQ r s := by
  unfold dueQ
  rw [take_succ_of h, List.foldl_append]
  rfl
theorem due_row_get {R : Rounds} {s : Str} {k : Nat} (h : k < R.length) : (dueRow R s)[k]? = some (dueQ R s (k + 1)) := by
  unfold dueRow
  rw [List.getElem?_map, List.getElem?_range h]
  rfl
theorem due_row_len (R : Rounds) (s : Str) : (dueRow R s).length = R.length := by unfold dueRow; rw [List.length_map, List.length_range]
theorem due_row_take {R : Rounds} {s : Str} {k : Nat} (h : k < R.length) : ((dueRow R s).take (k + 1)).map fD = ((dueRow R s).take k).map fD ++ [fD (dueQ R s (k + 1))] := by
  rw [take_succ_of (due_row_get h), List.map_append]
  rfl
/-! ### the defs -/
def NoughtOk (K : PySem.W.Frag) : Prop := ∀ I : Hp, Rp K I (fD 0) (.ref (He.ga K "NOUGHT"))
section
variable {K : PySem.W.Frag} {lk : Bool} {ρ : List Sl} {ta tb te : TE} {a b q : Rat}
theorem ev_nought (hn : NoughtOk K) : EvD K lk (tC (.ref (He.ga K "NOUGHT"))) ρ (fD 0) := ev_c hn
/-- [.. for name, weight, can in row if ..] -/
theorem ev_guests {tt : TT} {i j l : Nat} {r : Row} (h : EvD K lk ta ρ (rowD r)) (hl : r.length ≤ 1000) (f : Guest → Bool) (v : Guest → D)
    (turn : ∀ g ∈ r, EvB K lk tt ((((wipeS ρ [i, j, l]).set i (.dat (.str g.1))).set j (.dat (.int g.2.1))).set l (.dat (.int g.2.2))) (f g) ∧ (f g = true → EvD K lk te ((((wipeS ρ [i, j, l]).set i (.dat (.str g.1))).set j (.dat (.int g.2.1))).set l (.dat (.int g.2.2))) (v g))) :
    EvD K lk (tLc (iSeq K ta) (gTup K 3 (gCons (gName i) (gCons (gName j) (gCons (gName l) gNil)))) tt te [i, j, l]) ρ (.lst ((r.filter f).map v)) := by
  refine ev_lc (js := [i, j, l]) (is_tup h) (fun _ k ys => ys = ((r.take k).filter f).map v) (fun _ _ => rfl) (fun xs e => by rw [show xs = _ from e, List.length_map]; omega) (fun j hj => hj) (fun xs k x ys e hx ha => ?_) fun xs ys e ha => ?_
  · rw [show xs = _ from e, List.getElem?_map] at hx
    cases hg : r[k]? with
    | none => rw [hg] at hx; cases hx
    | some g =>
      rw [hg] at hx
      have hx : gD g = x := Option.some.inj hx
      subst hx
      obtain ⟨t1, t2⟩ := turn g (List.mem_of_getElem? hg)
      refine ⟨_, _, tg_tup3, t1, fun z => ?_, fun z => (t2 z.symm).imp fun d ed => ?_⟩
      · rw [filter_take_succ f v hg, if_neg (by rw [← z]; decide), List.append_nil]; exact ha
      · rw [filter_take_succ f v hg, if_pos z.symm, ha, ed]
  · rw [show xs = _ from e, List.length_map, List.take_length] at ha
    rw [ha]
def sp_who_can (K : PySem.W.Frag) : Sp := spP K false (fun r : Row => [.d (rowD r)]) (fun r => r.length ≤ 8) (fun r d => d = .lst ((canQ r).map D.str))
/-- slots: 0 row, 1 name, 2 weight, 3 can -/
def t_who_can (K : PySem.W.Frag) : TS := (tRet (tLc (iSeq K (tVar 0)) (gTup K 3 (gCons (gName 1) (gCons (gName 2) (gCons (gName 3) gNil)))) (tTest (tOp (rEqU K) (tVar 3) (tC (.int 1)))) (tVar 1) [1, 2, 3]))
theorem st_who_can (lk : Bool) (r : Row) (h : r.length ≤ 8) : StS K lk (t_who_can K) (startS 4 [.d (rowD r)]) (Fn fun d => d = .lst ((canQ r).map D.str)) := by
  refine st_ret (ev_guests (r := r) (ev_v rfl) (by omega) (fun g => decide (g.2.2 = 1)) (fun g => .str g.1) fun g _ => ⟨et_test (eu_eqI (ev_v rfl) ev_int), fun _ => ev_v rfl⟩) fun d e => ?_
  show d = _
  unfold canQ
  rw [e, List.map_map]
  rfl
theorem run_who_can : ∀ vs H Q E, sp_who_can K vs H Q E → t_who_can K { nx := fun _ H' => Q .non H', rt := Q } (L2.start ["row", "name", "weight", "can"] vs) H := sp_run 4 rfl fun lk _ r h => st_who_can lk r h
def sp_law_can (K : PySem.W.Frag) : Sp := sp_who_can K
/-- slots: 0 row, 1 name, 2 weight, 3 can -/
def t_law_can (K : PySem.W.Frag) : TS := (tRet (tLc (iSeq K (tVar 0)) (gTup K 3 (gCons (gName 1) (gCons (gName 2) (gCons (gName 3) gNil)))) (tTest (tOp (rEqU K) (tVar 3) (tC (.int 1)))) (tVar 1) [1, 2, 3]))
theorem run_law_can : ∀ vs H Q E, sp_law_can K vs H Q E → t_law_can K { nx := fun _ H' => Q .non H', rt := Q } (L2.start ["row", "name", "weight", "can"] vs) H := run_who_can
/-! names -/
def keyOf : D → Key
  | .tup (.str s :: _) => .inr s
  | _ => .inl 0
def ksD : D → List Key
  | .tup gs => gs.map keyOf
  | _ => []
theorem ks_row (r : Row) : ksD (rowD r) = (r.map (·.1)).map Sum.inr := by
  show (r.map gD).map keyOf = _
  rw [List.map_map, List.map_map]
  rfl
theorem ks_rows (R : Rounds) : (R.map rowD).flatMap ksD = (allN R).map Sum.inr := by
  unfold allN
  rw [List.flatMap_map]
  induction R with
  | nil => rfl
  | cons r R ih => rw [List.flatMap_cons, List.flatMap_cons, List.map_append, ks_row, ih]
theorem allN_len : ∀ {R : Rounds}, (∀ r ∈ R, r.length ≤ 8) → (allN R).length ≤ 8 * R.length
  | [], _ => Nat.le_refl _
  | r :: R, h => by
    have a := allN_len fun x hx => h x (List.mem_cons_of_mem _ hx)
    have b := h r (by simp)
    have e : allN (r :: R) = r.map (·.1) ++ allN R := rfl
    rw [e, List.length_append, List.length_map, List.length_cons]
    omega
def preR (R : Rounds) : Prop := R.length ≤ 20 ∧ (∀ r ∈ R, r.length ≤ 8) ∧ (dd (allN R)).length ≤ 40
theorem Wf.preR {R : Rounds} (h : Wf R) : preR R := ⟨h.len, fun r hr => (h.rows r hr).len, h.few⟩
def sp_names (K : PySem.W.Frag) : Sp := spP K false (fun R : Rounds => [.d (rsD R)]) preR (fun R d => d = .lst ((namesQ R).map D.str))
/-- slots: 0 rounds, 1 row, 2 name, 3 weight, 4 can -/
def t_names (K : PySem.W.Frag) : TS := (tRet (tCB (rSortedU K) (tCons (tDc2 (iSeq K (tVar 0)) (gName 1) (iSeq K (tVar 1)) (gTup K 3 (gCons (gName 2) (gCons (gName 3) (gCons (gName 4) gNil)))) (tVar 2) (tC (.bl true)) [1, 2, 3, 4] [2, 3, 4]) tNil)))
theorem st_names (lk : Bool) (R : Rounds) (h : preR R) : StS K lk (t_names K) (startS 5 [.d (rsD R)]) (Fn fun d => d = .lst ((namesQ R).map D.str)) := by
  have hl := allN_len h.2.1
  have h20 := h.1
  refine st_ret (eu_sortedD (kvs := dFold (.bl true) [] ((R.map rowD).flatMap ksD)) (ks := dd (allN R)) ?_ (by rw [ks_rows]; exact keys_dd _ _) (by have := h.2.2; omega)) fun d e => e
  refine ev_dc2K (js := [1]) (js1 := [2, 3, 4]) (is_tup (ev_v rfl)) ksD (.bl true) (by rw [ks_rows, List.length_map]; omega) (by decide) (by decide) fun x hx => ?_
  obtain ⟨r, hr, rfl⟩ := List.mem_map.mp hx
  refine ⟨_, r.map gD, tg_name, is_tup (ev_v rfl), by rw [ks_row, List.length_map, List.length_map, List.length_map], fun j y k hy hk => ?_⟩
  rw [List.getElem?_map] at hy
  rw [ks_row, List.getElem?_map, List.getElem?_map] at hk
  cases hg : r[j]? with
  | none => rw [hg] at hy; cases hy
  | some g =>
    rw [hg] at hy hk
    have hy : gD g = y := Option.some.inj hy
    have hk : Sum.inr g.1 = k := Option.some.inj hk
    subst hy hk
    exact ⟨_, tg_tup3, ev_v rfl, ev_bl⟩
theorem run_names : ∀ vs H Q E, sp_names K vs H Q E → t_names K { nx := fun _ H' => Q .non H', rt := Q } (L2.start ["rounds", "row", "name", "weight", "can"] vs) H := sp_run 5 rfl fun lk _ R h => st_names lk R h
end
end RF

set_option Elab.async false
set_option linter.all false
set_option maxRecDepth 100000
set_option maxHeartbeats 4000000
set_option autoImplicit false
set_option exponentiation.threshold 6000
namespace RF
open PySem L2

theorem eqD_lst_nil (xs : List D) : eqD (.lst xs) (.lst []) = decide (xs = []) := by
  cases xs with
  | nil => rfl
  | cons x xs => rfl
theorem eqD_tup_nil (xs : List D) : eqD (.tup xs) (.tup []) = decide (xs = []) := by
  cases xs with
  | nil => rfl
  | cons x xs => rfl
theorem plain_ints (n : Nat) (xs : List Int) : Plain (n + 1) (.lst (xs.map D.int)) := fun x hx => by
  obtain ⟨i, _, rfl⟩ := List.mem_map.mp hx
  cases n <;> exact True.intro
theorem plain_strs (n : Nat) {xs : List Str} (h : ∀ s ∈ xs, PyData.strOk s = true) : Plain (n + 1) (.tup (xs.map D.str)) := fun x hx => by
  obtain ⟨i, hi, rfl⟩ := List.mem_map.mp hx
  cases n <;> exact h i hi
theorem plain_nilL (n : Nat) : Plain (n + 1) (.lst []) := fun x hx => by cases hx
theorem plain_nilT (n : Nat) : Plain (n + 1) (.tup []) := fun x hx => by cases hx
/-- of names that are there once, one guest at most -/
theorem filter_one {r : Row} {s : Str} (hn : (r.map (·.1)).Nodup) : (r.filter fun g => decide (g.1 = s)) = [] ∨ ∃ g, g ∈ r ∧ g.1 = s ∧ (r.filter fun g => decide (g.1 = s)) = [g] := by
  induction r with
  | nil => exact .inl rfl
  | cons g r ih =>
    rw [List.map_cons, List.nodup_cons] at hn
    rw [List.filter_cons]
    by_cases z : g.1 = s
    · rw [if_pos (decide_eq_true z)]
      refine .inr ⟨g, by simp, z, ?_⟩
      rw [List.filter_eq_nil_iff.mpr fun x hx h => ?_]
      exact hn.1 (List.mem_map.mpr ⟨x, hx, (of_decide_eq_true h).trans z.symm⟩)
    · rw [if_neg (by rw [decide_eq_false z]; decide)]
      rcases ih hn.2 with h | ⟨x, hx, e, h⟩
      · exact .inl h
      · exact .inr ⟨x, List.mem_cons_of_mem _ hx, e, h⟩
section
variable {K : PySem.W.Frag} {lk : Bool} {ρ : List Sl} {ta tb te : TE} {a b q : Rat}
/-! part -/
def sp_part (K : PySem.W.Frag) : Sp := spP K false (fun x : Row × Str => [.d (rowD x.1), .d (.str x.2)]) (fun x => WfRow x.1) (fun x d => d = fD (partQ x.1 x.2))
/-- slots: 0 row, 1 name, 2 some, 3 guest, 4 weight, 5 can -/
def t_part (K : PySem.W.Frag) : TS := (tSeq (tAsg (tLc (iSeq K (tVar 0)) (gTup K 3 (gCons (gName 3) (gCons (gName 4) (gCons (gName 5) gNil)))) (tTest (tOp (rEqU K) (tVar 3) (tVar 1))) (tVar 4) [3, 4, 5]) (gName 2)) (tRet (tIf (tTest (tOp (rNeU K) (tVar 2) (tLst tNil))) (tCall (sp_fraction K) [] E0 (tCons (rIxU K (tVar 2) (tC (.int 0))) (tCons (tCB (rSum K) (tCons (tLc (iSeq K (tVar 0)) (gTup K 3 (gCons (gName 3) (gCons (gName 4) (gCons (gName 5) gNil)))) tYes (tVar 4) [3, 4, 5]) tNil)) tNil))) (tC (.ref (He.ga K "NOUGHT"))))))
theorem wt_pre {r : Row} (h : WfRow r) : 0 < wtQ r ∧ (wtQ r).natAbs < 2 ^ 5000 := by
  obtain ⟨a, b⟩ := wt_pos h
  have e2 : (2 : Int) ^ 43 = 8796093022208 := by decide
  have e3 : (8796093022208 : Nat) < 2 ^ 5000 := by decide
  exact ⟨a, by omega⟩
theorem st_part (hn : NoughtOk K) (lk : Bool) (x : Row × Str) (h : WfRow x.1) : StS K lk (t_part K) (startS 6 [.d (rowD x.1), .d (.str x.2)]) (Fn fun d => d = fD (partQ x.1 x.2)) := by
  obtain ⟨r, s⟩ := x
  dsimp only at h ⊢
  have hl := h.len
  refine st_letD (ev_is (ev_guests (r := r) (ev_v rfl) (by omega) (fun g => decide (g.1 = s)) (fun g => .int g.2.1) fun g _ => ⟨et_test (eu_eqS (ev_v rfl) (ev_v rfl)), fun _ => ev_v rfl⟩) (y := .lst (((r.filter fun g => decide (g.1 = s)).map (·.2.1)).map D.int)) (by rw [List.map_map]; rfl)) ?_
  refine st_ret (P := fun d => d = fD (partQ r s)) ?_ fun d e => e
  refine ev_if (et_test (eu_neD 1 (ev_v rfl) (ev_lst (ds := []) ea_nil) (plain_ints 0 _) (plain_nilL 0))) (fun hb => ?_) fun hb => ?_
  · rw [eqD_lst_nil] at hb
    rcases filter_one (s := s) h.nd with e | ⟨g, hg, eg, e⟩
    · rw [e] at hb; cases hb
    · refine (ev_call ((g.2.1, wtQ r) : TI2) (ea_cons (eu_ixL (ev_v rfl) ev_int (by rw [e]; rfl)) (ea_cons (ev_is (eu_sum (ns := r.map (·.2.1)) (ev_is (ev_guests (r := r) (ev_v rfl) (by omega) (fun g => true) (fun g => .int g.2.1) fun g _ => ⟨et_yes, fun _ => ev_v rfl⟩) ?_)) rfl) ea_nil)) (wt_pre h)).imp fun d ed => ?_
      · rw [List.filter_eq_self.mpr fun _ _ => rfl, List.map_map]; rfl
      · have ed : d = fD (mkRat g.2.1 (wtQ r).toNat) := ed
        unfold partQ mineQ
        rw [ed, e]
        rw [List.map_cons, List.map_nil, List.sum_cons, List.sum_nil, Int.add_zero]
  · rw [eqD_lst_nil] at hb
    have e : (r.filter fun g => decide (g.1 = s)) = [] := by simpa using hb
    refine ev_is (ev_nought hn) ?_
    unfold partQ mineQ
    rw [e]
    show fD 0 = fD (mkRat 0 _)
    rw [Rat.zero_mkRat]
theorem run_part (hn : NoughtOk K) : ∀ vs H Q E, sp_part K vs H Q E → t_part K { nx := fun _ H' => Q .non H', rt := Q } (L2.start ["row", "name", "some", "guest", "weight", "can"] vs) H := sp_run 6 rfl fun lk _ x h => st_part hn lk x h
/-! due_row -/
def sp_due_row (K : PySem.W.Frag) : Sp := spP K false (fun x : Rounds × Str => [.d (rsD x.1), .d (.str x.2)]) (fun x => Wf x.1) (fun x d => d = .tup ((dueRow x.1 x.2).map fD))
/-- slots: 0 rounds, 1 name, 2 found, 3 last, 4 row -/
def t_due_row (K : PySem.W.Frag) : TS := (tSeq (tPar 2 3 (tCons (tLst tNil) (tCons (tC (.ref (He.ga K "NOUGHT"))) tNil))) (tSeq (tFor (iSeq K (tVar 0)) (gName 4) (tSeq (tAsg (tCall (sp_plus K) [] E0 (tCons (tVar 3) (tCons (tCall (sp_part K) [] E0 (tCons (tVar 4) (tCons (tVar 1) tNil))) tNil))) (gName 3)) (tDrop (tBM K "list" rAppend (tVar 2) (tCons (tVar 3) tNil))))) (tRet (tCB (rTupU K) (tCons (tVar 2) tNil)))))
theorem part_small {r : Row} (h : WfRow r) (s : Str) : Small (partQ r s) := (part_bq h s).small (Nat.pow_lt_pow_right (by decide) (by decide))
theorem get_row {R : Rounds} {i : Nat} {x : D} (h : (R.map rowD)[i]? = some x) : ∃ r, R[i]? = some r ∧ x = rowD r := by
  rw [List.getElem?_map] at h
  cases hg : R[i]? with
  | none => rw [hg] at h; cases h
  | some r => rw [hg] at h; exact ⟨r, rfl, (Option.some.inj h).symm⟩
theorem st_due_row (hn : NoughtOk K) (lk : Bool) (x : Rounds × Str) (h : Wf x.1) : StS K lk (t_due_row K) (startS 5 [.d (rsD x.1), .d (.str x.2)]) (Fn fun d => d = .tup ((dueRow x.1 x.2).map fD)) := by
  obtain ⟨R, s⟩ := x
  dsimp only at h ⊢
  refine st_parOq (ev_nought hn) ?_
  refine st_forq (js := [4]) (is_tup (ev_v rfl)) (fun i ρ => ∃ y, ρ = [.dat (rsD R), .dat (.str s), .lst (((dueRow R s).take i).map fD), .dat (fD (dueQ R s i)), y]) ⟨_, rfl⟩ (fun i x ρ1 hx iv => ?_) fun ρ' iv => ?_
  · obtain ⟨y, rfl⟩ := iv
    obtain ⟨r, hr, rfl⟩ := get_row hx
    have hi : i < R.length := (List.getElem?_eq_some_iff.mp hr).1
    have wr := h.rows r (List.mem_of_getElem? hr)
    refine ⟨_, tg_name, ?_⟩
    refine st_let (ev_call ((dueQ R s i, partQ r s) : Q2) (ea_cons (ev_v rfl) (ea_cons (ev_call ((r, s) : Row × Str) (ea_cons (ev_v rfl) (ea_cons (ev_v rfl) ea_nil)) wr) ea_nil)) ⟨due_small h s i, part_small wr s⟩) fun d e => ?_
    have e : d = fD (dueQ R s i + partQ r s) := e
    rw [← due_succ hr] at e
    subst e
    refine st_app' (P := fun x => x = fD (dueQ R s (i + 1))) rfl (ev_v rfl) (by rw [List.length_map, List.length_take, due_row_len]; have := h.len; omega) fun d e => ⟨.dat (rowD r), ?_⟩
    subst e
    rw [due_row_take hi]
    rfl
  · obtain ⟨y, rfl⟩ := iv
    refine st_ret (eu_tupO rfl) fun d e => ?_
    show d = _
    rw [e, List.length_map, ← due_row_len R s, List.take_length]
theorem run_due_row (hn : NoughtOk K) : ∀ vs H Q E, sp_due_row K vs H Q E → t_due_row K { nx := fun _ H' => Q .non H', rt := Q } (L2.start ["rounds", "name", "found", "last", "row"] vs) H := sp_run 5 rfl fun lk _ x h => st_due_row hn lk x h
/-! dues -/
def duesD (R : Rounds) : List D := (namesQ R).map fun s => .tup [.str s, .tup ((dueRow R s).map fD)]
def sp_dues (K : PySem.W.Frag) : Sp := spP K false (fun R : Rounds => [.d (rsD R)]) Wf (fun R d => d = .lst (duesD R))
/-- slots: 0 rounds, 1 name -/
def t_dues (K : PySem.W.Frag) : TS := (tRet (tLc (iSeq K (tCall (sp_names K) [] E0 (tCons (tVar 0) tNil))) (gName 1) tYes (tTupU (tCons (tVar 1) (tCons (tCall (sp_due_row K) [] E0 (tCons (tVar 0) (tCons (tVar 1) tNil))) tNil))) [1]))
/-- [.. for name in names] -/
theorem ev_forNames {wi : TI} {i : Nat} {ns : List Str} (h : ItS K lk wi ρ (fun ys => ys = ns.map D.str)) (hl : ns.length ≤ 1000) (v : Str → D) (turn : ∀ s ∈ ns, EvD K lk te ((wipeS ρ [i]).set i (.dat (.str s))) (v s)) : EvD K lk (tLc wi (gName i) tYes te [i]) ρ (.lst (ns.map v)) := by
  refine ev_lc (js := [i]) h (fun _ k ys => ys = (ns.take k).map v) (fun _ _ => rfl) (fun xs e => by rw [show xs = _ from e, List.length_map]; omega) (fun j hj => hj) (fun xs k x ys e hx ha => ?_) fun xs ys e ha => ?_
  · rw [show xs = _ from e, List.getElem?_map] at hx
    cases hg : ns[k]? with
    | none => rw [hg] at hx; cases hx
    | some g =>
      rw [hg] at hx
      have hx : D.str g = x := Option.some.inj hx
      subst hx
      refine ⟨_, _, tg_name, et_yes, (fun z => Bool.noConfusion z), fun _ => (turn g (List.mem_of_getElem? hg)).imp fun d ed => ?_⟩
      rw [take_succ_of hg, List.map_append, ha, ed]
      rfl
  · rw [show xs = _ from e, List.length_map, List.take_length] at ha
    rw [ha]
theorem ev_names {sp : Sp} (hsp : sp = sp_names K) {R : Rounds} (h : EvD K lk te ρ (rsD R)) (w : preR R) : EvD K lk (tCall sp [] E0 (tCons te tNil)) ρ (.lst ((namesQ R).map D.str)) := by
  subst hsp
  exact ev_call R (ea_cons h ea_nil) w
theorem st_dues (lk : Bool) (R : Rounds) (h : Wf R) : StS K lk (t_dues K) (startS 2 [.d (rsD R)]) (Fn fun d => d = .lst (duesD R)) := by
  refine st_ret (ev_forNames (ns := namesQ R) (is_lst (ev_names rfl (ev_v rfl) h.preR)) (by have := names_len h; omega) (fun s => .tup [.str s, .tup ((dueRow R s).map fD)]) fun s hs => ?_) fun d e => e
  exact eu_tup (ds := [.str s, .tup ((dueRow R s).map fD)]) (ea_cons (ev_v rfl) (ea_cons (ev_call ((R, s) : Rounds × Str) (ea_cons (ev_v rfl) (ea_cons (ev_v rfl) ea_nil)) h) ea_nil))
theorem run_dues : ∀ vs H Q E, sp_dues K vs H Q E → t_dues K { nx := fun _ H' => Q .non H', rt := Q } (L2.start ["rounds", "name"] vs) H := sp_run 2 rfl fun lk _ R h => st_dues lk R h
/-! unfairness -/
def paidQ (ps : List Str) (s : Str) (k : Nat) : Nat := (ps.take k).count s
def gapQ (R : Rounds) (ps : List Str) (s : Str) (k : Nat) : Rat := absQ (dueQ R s (k + 1) - ((paidQ ps s (k + 1) : Nat) : Rat))
def unfRow (R : Rounds) (ps : List Str) (s : Str) (q : Rat) (n : Nat) : Rat := (List.range n).foldl (fun q k => maxQ q (gapQ R ps s k)) q
def unfTo (R : Rounds) (ps : List Str) (n : Nat) : Rat := ((namesQ R).take n).foldl (fun q s => unfRow R ps s q ps.length) 0
def unfQ (R : Rounds) (ps : List Str) : Rat := (namesQ R).foldl (fun q s => unfRow R ps s q ps.length) 0
theorem gap_bq {R : Rounds} (h : Wf R) {ps : List Str} (hp : ps.length ≤ R.length) (s : Str) (k : Nat) : Bq (2 ^ 900) (gapQ R ps s k) := by
  have hc : paidQ ps s (k + 1) ≤ 20 := by
    have h1 : (ps.take (k + 1)).count s ≤ (ps.take (k + 1)).length := List.count_le_length
    have h2 : (ps.take (k + 1)).length ≤ ps.length := by rw [List.length_take]; omega
    have := h.len
    unfold paidQ
    omega
  have hb : Bq 20 ((paidQ ps s (k + 1) : Nat) : Rat) := ⟨by show ((((paidQ ps s (k + 1) : Nat) : Int) : Rat)).num.natAbs ≤ 20; rw [Rat.num_intCast]; omega, by show ((((paidQ ps s (k + 1) : Nat) : Int) : Rat)).den ≤ 20; rw [Rat.den_intCast]; omega⟩
  have z := ((due_bq h s (k + 1)).sub hb).abs
  refine z.mono ?_
  have : (2 : Nat) ^ 900 = 2 ^ 880 * 2 ^ 20 := by rw [← Nat.pow_add]
  rw [this]
  have : (2 : Nat) ^ 20 = 1048576 := by decide
  generalize (2 : Nat) ^ 880 = x
  omega
theorem row_bq {R : Rounds} (h : Wf R) {ps : List Str} (hp : ps.length ≤ R.length) (s : Str) (ks : List Nat) : ∀ (q : Rat), Bq (2 ^ 900) q → Bq (2 ^ 900) (ks.foldl (fun q k => maxQ q (gapQ R ps s k)) q) := by
  induction ks with
  | nil => exact fun q h => h
  | cons k ks ih => exact fun q hq => ih _ (hq.max (gap_bq h hp s k))
theorem unf_bq {R : Rounds} (h : Wf R) {ps : List Str} (hp : ps.length ≤ R.length) (ns : List Str) : ∀ (q : Rat), Bq (2 ^ 900) q → Bq (2 ^ 900) (ns.foldl (fun q s => unfRow R ps s q ps.length) q) := by
  induction ns with
  | nil => exact fun q h => h
  | cons k ks ih => exact fun q hq => ih _ (row_bq h hp k _ q hq)
theorem bq_small {q : Rat} (h : Bq (2 ^ 900) q) : Small q := h.small (Nat.pow_lt_pow_right (by decide) (by decide))
theorem row_succ (R : Rounds) (ps : List Str) (s : Str) (q : Rat) (n : Nat) : unfRow R ps s q (n + 1) = maxQ (unfRow R ps s q n) (gapQ R ps s n) := by
  unfold unfRow
  rw [List.range_succ, List.foldl_append]
  rfl
abbrev RP : Type := Rounds × List Str
def encRP (x : RP) : List Ar := [.d (rsD x.1), .d (.tf x.2)]
def preRP (x : RP) : Prop := Wf x.1 ∧ x.2.length ≤ x.1.length ∧ ∀ s ∈ x.2, PyData.strOk s = true
def sp_unfairness (K : PySem.W.Frag) : Sp := spP K false encRP preRP (fun x d => d = fD (unfQ x.1 x.2))
/-- slots: 0 rounds, 1 payers, 2 found, 3 name, 4 row, 5 place -/
def t_unfairness (K : PySem.W.Frag) : TS := (tSeq (tAsg (tC (.ref (He.ga K "NOUGHT"))) (gName 2)) (tSeq (tFor (iSeq K (tCall (sp_dues K) [] E0 (tCons (tVar 0) tNil))) (gTup K 2 (gCons (gName 3) (gCons (gName 4) gNil))) (tFor (iRng1 (tCons (tCB (rLenU K) (tCons (tVar 1) tNil)) tNil)) (gName 5) (tAsg (tCall (sp_greater K) [] E0 (tCons (tVar 2) (tCons (tCall (sp_far K) [] E0 (tCons (rIxU K (tVar 4) (tVar 5)) (tCons (tCall (sp_whole K) [] E0 (tCons (tCount (tSl (slU K) (tVar 1) tNoPart (tPart (tOp (rAddU K) (tVar 5) (tC (.int 1))))) (tCons (tVar 3) tNil)) tNil)) tNil))) tNil))) (gName 2)))) (tRet (tVar 2))))
theorem count_eq (ps : List Str) (s : Str) (k : Nat) : ((ps.take (k + 1)).count s : Int) = ((paidQ ps s (k + 1) : Nat) : Int) := rfl
theorem ev_count {i j : Nat} {ps : List Str} {s : Str} {k : Nat} (hp : EvD K lk ta ρ (.tf ps)) (hk : EvD K lk tb ρ (.int (k : Int))) (hs : EvD K lk te ρ (.str s)) : EvD K lk (tCount (tSl (slU K) ta tNoPart (tPart (tOp (rAddU K) tb (tC (.int 1))))) (tCons te tNil)) ρ (.int ((paidQ ps s (k + 1) : Nat) : Int)) :=
  eu_count (eu_toF (n := k + 1) hp (ev_is (eu_add hk ev_int) (by simp))) hs
theorem get_due {R : Rounds} {i : Nat} {x : D} (h : (duesD R)[i]? = some x) : ∃ s, (namesQ R)[i]? = some s ∧ x = .tup [.str s, .tup ((dueRow R s).map fD)] := by
  unfold duesD at h
  rw [List.getElem?_map] at h
  cases hg : (namesQ R)[i]? with
  | none => rw [hg] at h; cases h
  | some r => rw [hg] at h; exact ⟨r, rfl, (Option.some.inj h).symm⟩
theorem get_range {lo : Int} {n i : Nat} {x : D} (h : (rangeD lo n)[i]? = some x) : i < n ∧ x = .int (lo + (i : Nat)) := by
  have hi : i < n := by
    have := (List.getElem?_eq_some_iff.mp h).1
    rw [rangeD_len] at this
    exact this
  rw [rangeD_get hi] at h
  exact ⟨hi, (Option.some.inj h).symm⟩
theorem at_due {R : Rounds} {s : Str} {k : Nat} (h : k < R.length) : atI ((dueRow R s).map fD) (k : Int) = some (fD (dueQ R s (k + 1))) := atI_nat (by rw [List.getElem?_map, due_row_get h]; rfl)
theorem it_len {ps : List Str} (hp : EvD K lk ta ρ (.tf ps)) (hl : ps.length ≤ 20) : ItS K lk (iRng1 (tCons (tCB (rLenU K) (tCons ta tNil)) tNil)) ρ (fun ys => ys = rangeD 0 ps.length) := by
  have z := it_range1 (K := K) (lk := lk) (ρ := ρ) (n := (ps.length : Int)) (ea_cons (ev_is (eu_lenT (ev_tf hp)) (by rw [List.length_map])) ea_nil) (by omega) (by omega)
  rw [Int.toNat_natCast] at z
  exact z
theorem st_unfairness (hn : NoughtOk K) (lk : Bool) (x : RP) (h : preRP x) : StS K lk (t_unfairness K) (startS 6 (encRP x)) (Fn fun d => d = fD (unfQ x.1 x.2)) := by
  obtain ⟨R, ps⟩ := x
  obtain ⟨w, hp, hok⟩ := h
  dsimp only at w hp hok ⊢
  have hl := w.len
  refine st_letD (ev_nought hn) ?_
  refine st_forq (js := [3, 4]) (is_lst (ev_call R (ea_cons (ev_v rfl) ea_nil) w)) (fun i ρ => ∃ x y z, ρ = [.dat (rsD R), .dat (.tf ps), .dat (fD (unfTo R ps i)), x, y, z]) ⟨_, _, _, rfl⟩ (fun i x ρ1 hx iv => ?_) fun ρ' iv => ?_
  · obtain ⟨x, y, z, rfl⟩ := iv
    obtain ⟨s, hs, rfl⟩ := get_due hx
    have ub : Bq (2 ^ 900) (unfTo R ps i) := unf_bq w hp _ 0 (.zero (Nat.pos_of_ne_zero (by decide)))
    refine ⟨_, tg_tup2, ?_⟩
    refine st_forD (js := [5]) (it_len (ev_v rfl) (by omega)) (fun j ρ => ∃ z, ρ = [.dat (rsD R), .dat (.tf ps), .dat (fD (unfRow R ps s (unfTo R ps i) j)), .dat (.str s), .dat (.tup ((dueRow R s).map fD)), z]) ⟨_, rfl⟩ (fun j x ρ1 hx iv => ?_) fun ρ' iv => ?_
    · obtain ⟨z, rfl⟩ := iv
      obtain ⟨hj, rfl⟩ := get_range hx
      rw [Int.zero_add]
      refine ⟨_, tg_name, ?_⟩
      have hb1 : Small ((((paidQ ps s (j + 1) : Nat) : Int) : Rat)) := by
        refine ⟨?_, ?_⟩
        · rw [Rat.num_intCast]
          have h1 : (ps.take (j + 1)).count s ≤ (ps.take (j + 1)).length := List.count_le_length
          have h2 : (ps.take (j + 1)).length ≤ ps.length := by rw [List.length_take]; omega
          have h3 : (20 : Nat) < 2 ^ 2000 := by decide
          unfold paidQ
          omega
        · rw [Rat.den_intCast]; decide
      refine st_asg (ev_call ((unfRow R ps s (unfTo R ps i) j, gapQ R ps s j) : Q2) (ea_cons (ev_v rfl) (ea_cons (ev_call ((dueQ R s (j + 1), (((paidQ ps s (j + 1) : Nat) : Int) : Rat)) : Q2) (ea_cons (eu_ixT (ev_v rfl) (ev_v rfl) (at_due (by omega))) (ea_cons (ev_call ((paidQ ps s (j + 1) : Nat) : Int) (ea_cons (ev_count (i := 0) (j := 0) (ev_v rfl) (ev_v rfl) (ev_v rfl)) ea_nil) True.intro) ea_nil)) ⟨due_small w s _, hb1⟩) ea_nil)) ⟨bq_small (row_bq w hp s _ _ ub), bq_small (gap_bq w hp s j)⟩) fun d e => ⟨.dat (.int (j : Int)), ?_⟩
      have e : d = fD (maxQ (unfRow R ps s (unfTo R ps i) j) (gapQ R ps s j)) := e
      rw [e, ← row_succ]
      rfl
    · obtain ⟨z, rfl⟩ := iv
      rw [rangeD_len]
      have e : unfTo R ps (i + 1) = unfRow R ps s (unfTo R ps i) ps.length := by
        unfold unfTo
        rw [take_succ_of hs, List.foldl_append]
        rfl
      refine ⟨.dat (.str s), .dat (.tup ((dueRow R s).map fD)), z, ?_⟩
      rw [e]
  · obtain ⟨x, y, z, rfl⟩ := iv
    refine st_ret (ev_v rfl) fun d e => ?_
    show d = _
    rw [e]
    unfold unfTo unfQ
    rw [show (duesD R).length = (namesQ R).length from by unfold duesD; rw [List.length_map], List.take_length]
theorem run_unfairness (hn : NoughtOk K) : ∀ vs H Q E, sp_unfairness K vs H Q E → t_unfairness K { nx := fun _ H' => Q .non H', rt := Q } (L2.start ["rounds", "payers", "found", "name", "row", "place"] vs) H := sp_run 6 rfl fun lk _ x h => st_unfairness hn lk x h
end
end RF

set_option Elab.async false
set_option linter.all false
set_option maxRecDepth 100000
set_option maxHeartbeats 4000000
set_option autoImplicit false
set_option exponentiation.threshold 6000
namespace RF
open PySem L2

section
variable {K : PySem.W.Frag} {lk : Bool} {ρ : List Sl} {ta tb te : TE} {a b q : Rat}
/-! standing -/
def standQ (R : Rounds) (ps : List Str) (s : Str) : Rat := dueQ R s ps.length - ((ps.count s : Nat) : Rat)
def standD (R : Rounds) (ps : List Str) (s : Str) : D := .tup [.str s, fD (standQ R ps s)]
def sp_standing (K : PySem.W.Frag) : Sp := spP K false encRP preRP (fun x d => d = .lst ((namesQ x.1).map (standD x.1 x.2)))
/-- slots: 0 rounds, 1 payers, 2 found, 3 name, 4 row, 5 due -/
def t_standing (K : PySem.W.Frag) : TS := (tSeq (tAsg (tLst tNil) (gName 2)) (tSeq (tFor (iSeq K (tCall (sp_dues K) [] E0 (tCons (tVar 0) tNil))) (gTup K 2 (gCons (gName 3) (gCons (gName 4) gNil))) (tSeq (tAsg (tIf (tTest (tOp (rNeU K) (tVar 1) (tTupU tNil))) (rIxU K (tVar 4) (tOp rSubI (tCB (rLenU K) (tCons (tVar 1) tNil)) (tC (.int 1)))) (tC (.ref (He.ga K "NOUGHT")))) (gName 5)) (tDrop (tBM K "list" rAppend (tVar 2) (tCons (tTupU (tCons (tVar 3) (tCons (tCall (sp_minus K) [] E0 (tCons (tVar 5) (tCons (tCall (sp_whole K) [] E0 (tCons (tCount (tVar 1) (tCons (tVar 3) tNil)) tNil)) tNil))) tNil))) tNil))))) (tRet (tVar 2))))
theorem small_nat {n : Nat} (h : n ≤ 1000) : Small (((n : Nat) : Int) : Rat) := by
  refine ⟨?_, ?_⟩
  · rw [Rat.num_intCast]
    have h3 : (1000 : Nat) < 2 ^ 2000 := by decide
    omega
  · rw [Rat.den_intCast]; decide
theorem tup_ne {ps : List Str} (h : ∀ s ∈ ps, PyData.strOk s = true) (hp : EvD K lk ta ρ (.tf ps)) : EvB K lk (tTest (tOp (rNeU K) ta (tTupU tNil))) ρ (!decide (ps = [])) := by
  refine eb_is (et_test (eu_neD 1 (ev_tf hp) (eu_tup (ds := []) ea_nil) (plain_strs 0 h) (plain_nilT 0))) ?_
  rw [eqD_tup_nil]
  congr 1
  rw [decide_eq_decide]
  exact List.map_eq_nil_iff
/-- the due behind the last round that they pay -/
theorem ev_last {tn : TE} {R : Rounds} {ps : List Str} {s : Str} (hp : EvD K lk ta ρ (.tf ps)) (hr : EvD K lk tb ρ (.tup ((dueRow R s).map fD))) (hz : EvD K lk tn ρ (fD 0)) (h : preRP (R, ps)) :
    EvD K lk (tIf (tTest (tOp (rNeU K) ta (tTupU tNil))) (rIxU K tb (tOp rSubI (tCB (rLenU K) (tCons ta tNil)) (tC (.int 1)))) tn) ρ (fD (dueQ R s ps.length)) := by
  obtain ⟨w, hl, ok⟩ := h
  dsimp only at w hl ok
  refine ev_if (tup_ne ok hp) (fun hb => ?_) fun hb => ?_
  · have hne : ps ≠ [] := by simpa using hb
    have hpos : 0 < ps.length := List.length_pos_iff.mpr hne
    obtain ⟨k, hk⟩ : ∃ k, ps.length = k + 1 := ⟨ps.length - 1, by omega⟩
    rw [hk]
    exact eu_ixT hr (ev_is (ev_sub (ev_is (eu_lenT (ev_tf hp)) (by rw [List.length_map, hk])) ev_int) (by congr 1; show ((k + 1 : Nat) : Int) - 1 = (k : Int); omega)) (at_due (by omega))
  · have e : ps = [] := by simpa using hb
    subst e
    exact hz
theorem st_standing (hn : NoughtOk K) (lk : Bool) (x : RP) (h : preRP x) : StS K lk (t_standing K) (startS 6 (encRP x)) (Fn fun d => d = .lst ((namesQ x.1).map (standD x.1 x.2))) := by
  obtain ⟨R, ps⟩ := x
  have hpre := h
  obtain ⟨w, hp, hok⟩ := h
  dsimp only at w hp hok ⊢
  have hl := w.len
  refine st_own (ds := []) ea_nil ?_
  refine st_forq (js := [3, 4]) (is_lst (ev_call R (ea_cons (ev_v rfl) ea_nil) w)) (fun i ρ => ∃ x y z, ρ = [.dat (rsD R), .dat (.tf ps), .lst (((namesQ R).take i).map (standD R ps)), x, y, z]) ⟨_, _, _, rfl⟩ (fun i x ρ1 hx iv => ?_) fun ρ' iv => ?_
  · obtain ⟨x, y, z, rfl⟩ := iv
    obtain ⟨s, hs, rfl⟩ := get_due hx
    refine ⟨_, tg_tup2, ?_⟩
    refine st_letD (ev_last (R := R) (s := s) (ev_v rfl) (ev_v rfl) (ev_nought hn) hpre) ?_
    have hc : ps.count s ≤ 20 := by
      have h1 : ps.count s ≤ ps.length := List.count_le_length
      omega
    refine st_app' (P := fun x => x = standD R ps s) rfl (eu_tup (ds := [.str s, fD (standQ R ps s)]) (ea_cons (ev_v rfl) (ea_cons (ev_call ((dueQ R s ps.length, (((ps.count s : Nat) : Int) : Rat)) : Q2) (ea_cons (ev_v rfl) (ea_cons (ev_call ((ps.count s : Nat) : Int) (ea_cons (eu_count (ev_v rfl) (ev_v rfl)) ea_nil) True.intro) ea_nil)) ⟨due_small w s _, small_nat (by omega)⟩) ea_nil))) ?_ fun d e => ⟨.dat (.str s), .dat (.tup ((dueRow R s).map fD)), .dat (fD (dueQ R s ps.length)), ?_⟩
    · rw [List.length_map, List.length_take]
      have := names_len w
      omega
    · subst e
      rw [take_succ_of hs, List.map_append]
      rfl
  · obtain ⟨x, y, z, rfl⟩ := iv
    refine st_retL rfl ?_
    show D.lst _ = _
    rw [show (duesD R).length = (namesQ R).length from by unfold duesD; rw [List.length_map], List.take_length]
theorem run_standing (hn : NoughtOk K) : ∀ vs H Q E, sp_standing K vs H Q E → t_standing K { nx := fun _ H' => Q .non H', rt := Q } (L2.start ["rounds", "payers", "found", "name", "row", "due"] vs) H := sp_run 6 rfl fun lk _ x h => st_standing hn lk x h
/-! by_debts -/
def debtQ (R : Rounds) (ps : List Str) (k : Nat) (s : Str) : Rat := dueQ R s (k + 1) - ((ps.count s : Nat) : Rat)
def better (R : Rounds) (ps : List Str) (k : Nat) : Option (Rat × Str) → Str → Option (Rat × Str)
  | none, s => some (debtQ R ps k s, s)
  | some p, s => if p.1 < debtQ R ps k s then some (debtQ R ps k s, s) else some p
def bestQ (R : Rounds) (ps : List Str) (k : Nat) (cs : List Str) : Option (Rat × Str) := cs.foldl (better R ps k) none
def pickQ (R : Rounds) (ps : List Str) (k : Nat) (cs : List Str) : Str := match bestQ R ps k cs with
  | some p => p.2
  | none => ""
def byTo (R : Rounds) : Nat → List Str
  | 0 => []
  | n + 1 => byTo R n ++ (match R[n]? with | some r => [pickQ R (byTo R n) n (canQ r)] | none => [])
def byQ (R : Rounds) : List Str := byTo R R.length
def bestD : Option (Rat × Str) → D
  | none => .non
  | some p => .tup [fD p.1, .str p.2]
theorem better_mem (R : Rounds) (ps : List Str) (k : Nat) : ∀ (cs : List Str) (b : Option (Rat × Str)) (p : Rat × Str), cs.foldl (better R ps k) b = some p → (∃ s, p = (debtQ R ps k s, s) ∧ s ∈ cs) ∨ b = some p
  | [], b, p, h => .inr h
  | c :: cs, b, p, h => by
    rcases better_mem R ps k cs (better R ps k b c) p h with ⟨s, e, hs⟩ | e
    · exact .inl ⟨s, e, List.mem_cons_of_mem _ hs⟩
    · cases b with
      | none => exact .inl ⟨c, (Option.some.inj e).symm, by simp⟩
      | some b =>
        have e : (if b.1 < debtQ R ps k c then some (debtQ R ps k c, c) else some b) = some p := e
        by_cases z : b.1 < debtQ R ps k c
        · rw [if_pos z] at e; exact .inl ⟨c, (Option.some.inj e).symm, by simp⟩
        · rw [if_neg z] at e; exact .inr e
theorem better_some (R : Rounds) (ps : List Str) (k : Nat) : ∀ (cs : List Str) (b : Option (Rat × Str)), (cs ≠ [] ∨ b ≠ none) → cs.foldl (better R ps k) b ≠ none
  | [], b, h => h.elim (fun z => absurd rfl z) id
  | c :: cs, b, _ => better_some R ps k cs _ (.inr (by
    cases b with
    | none => exact Option.some_ne_none _
    | some b =>
      show (if b.1 < debtQ R ps k c then some (debtQ R ps k c, c) else some b) ≠ none
      split <;> exact Option.some_ne_none _))
theorem best_some {R : Rounds} {ps : List Str} {k : Nat} {cs : List Str} (h : cs ≠ []) : bestQ R ps k cs = some (debtQ R ps k (pickQ R ps k cs), pickQ R ps k cs) ∧ pickQ R ps k cs ∈ cs := by
  cases e : bestQ R ps k cs with
  | none => exact absurd e (better_some R ps k cs none (.inl h))
  | some p =>
    rcases better_mem R ps k cs none p e with ⟨s, ep, hs⟩ | z
    · have hp : pickQ R ps k cs = s := by unfold pickQ; rw [e, ep]
      rw [hp]
      exact ⟨by rw [ep], hs⟩
    · cases z
theorem can_ne {r : Row} (h : WfRow r) : canQ r ≠ [] := by
  obtain ⟨g, hg, e⟩ := h.can
  unfold canQ
  intro z
  rw [List.map_eq_nil_iff, List.filter_eq_nil_iff] at z
  exact z g hg (decide_eq_true e)
theorem can_mem {r : Row} {s : Str} (h : s ∈ canQ r) : ∃ g ∈ r, g.1 = s ∧ g.2.2 = 1 := by
  unfold canQ at h
  obtain ⟨g, hg, e⟩ := List.mem_map.mp h
  obtain ⟨h1, h2⟩ := List.mem_filter.mp hg
  exact ⟨g, h1, e, of_decide_eq_true h2⟩
theorem by_succ {R : Rounds} {n : Nat} {r : Row} (h : R[n]? = some r) : byTo R (n + 1) = byTo R n ++ [pickQ R (byTo R n) n (canQ r)] := by
  show byTo R n ++ _ = _
  rw [h]
theorem by_len {R : Rounds} : ∀ {n : Nat}, n ≤ R.length → (byTo R n).length = n
  | 0, _ => rfl
  | n + 1, h => by
    have hr : R[n]? = some R[n] := List.getElem?_eq_getElem h
    rw [by_succ hr, List.length_append, by_len (by omega)]
    rfl
/-- payers who can, round by round -/
def Pays (R : Rounds) (ps : List Str) : Prop := ps.length ≤ R.length ∧ ∀ (k : Nat) (r : Row) (s : Str), R[k]? = some r → ps[k]? = some s → s ∈ canQ r
theorem Pays.snoc {R : Rounds} {ps : List Str} {r : Row} {s : Str} (h : Pays R ps) (hr : R[ps.length]? = some r) (hs : s ∈ canQ r) : Pays R (ps ++ [s]) := by
  refine ⟨?_, fun k r' s' h1 h2 => ?_⟩
  · have := (List.getElem?_eq_some_iff.mp hr).1
    rw [List.length_append, List.length_singleton]
    omega
  · by_cases hk : k < ps.length
    · rw [List.getElem?_append_left hk] at h2
      exact h.2 k r' s' h1 h2
    · rw [List.getElem?_append_right (by omega)] at h2
      have e : k - ps.length = 0 := by
        have := (List.getElem?_eq_some_iff.mp h2).1
        rw [List.length_singleton] at this
        omega
      rw [e] at h2
      have hk2 : k = ps.length := by omega
      rw [hk2, hr] at h1
      cases h1
      cases h2
      exact hs
theorem Pays.nil (R : Rounds) : Pays R [] := ⟨Nat.zero_le _, fun k r s _ h => by cases h⟩
theorem by_pays {R : Rounds} (w : Wf R) : ∀ n, n ≤ R.length → Pays R (byTo R n)
  | 0, _ => .nil R
  | n + 1, h => by
    have hr : R[n]? = some R[n] := List.getElem?_eq_getElem h
    have wr := w.rows _ (List.getElem_mem h)
    rw [by_succ hr]
    exact (by_pays w n (by omega)).snoc (by rw [by_len (by omega)]; exact hr) (best_some (can_ne wr)).2
theorem Pays.mem {R : Rounds} {ps : List Str} (h : Pays R ps) {s : Str} (hs : s ∈ ps) : ∃ r ∈ R, ∃ g ∈ r, g.1 = s := by
  obtain ⟨k, hk, e⟩ := List.getElem_of_mem hs
  have hl := h.1
  have hr : R[k]? = some R[k] := List.getElem?_eq_getElem (by omega)
  obtain ⟨g, hg, e1, _⟩ := can_mem (h.2 k _ s hr (by rw [List.getElem?_eq_getElem hk, e]))
  exact ⟨_, List.getElem_mem (by omega), g, hg, e1⟩
theorem Pays.ok {R : Rounds} {ps : List Str} (h : Pays R ps) (w : Wf R) : preRP (R, ps) := ⟨w, h.1, fun s hs => by
  obtain ⟨r, hr, g, hg, e⟩ := h.mem hs
  rw [← e]
  exact (w.rows r hr).ok g hg⟩
theorem debt_small {R : Rounds} (w : Wf R) {ps : List Str} (h : ps.length ≤ R.length) (k : Nat) (s : Str) : Small (debtQ R ps k s) := by
  have hc : ps.count s ≤ 20 := by
    have h1 : ps.count s ≤ ps.length := List.count_le_length
    have := w.len
    omega
  have hb : Bq 20 ((ps.count s : Nat) : Rat) := ⟨by show ((((ps.count s : Nat) : Int) : Rat)).num.natAbs ≤ 20; rw [Rat.num_intCast]; omega, by show ((((ps.count s : Nat) : Int) : Rat)).den ≤ 20; rw [Rat.den_intCast]; omega⟩
  have z := (due_bq w s (k + 1)).sub hb
  refine bq_small (z.mono ?_)
  have : (2 : Nat) ^ 900 = 2 ^ 880 * 2 ^ 20 := by rw [← Nat.pow_add]
  rw [this]
  have : (2 : Nat) ^ 20 = 1048576 := by decide
  generalize (2 : Nat) ^ 880 = x
  omega
def sp_by_debts (K : PySem.W.Frag) : Sp := spP K false (fun R : Rounds => [.d (rsD R)]) Wf (fun R d => d = .tf (byQ R))
/-- slots: 0 rounds, 1 payers, 2 place, 3 row, 4 best_one, 5 name, 6 debt -/
def t_by_debts (K : PySem.W.Frag) : TS := (tSeq (tAsg (tTupU tNil) (gName 1)) (tSeq (tFor (iEnumU K (tCons (tVar 0) tNil)) (gTup K 2 (gCons (gName 2) (gCons (gName 3) gNil))) (tSeq (tAsg (tC .non) (gName 4)) (tSeq (tFor (iSeq K (tCall (sp_who_can K) [] E0 (tCons (tVar 3) tNil))) (gName 5) (tSeq (tAsg (tCall (sp_minus K) [] E0 (tCons (rIxU K (tCall (sp_due_row K) [] E0 (tCons (tVar 0) (tCons (tVar 5) tNil))) (tVar 2)) (tCons (tCall (sp_whole K) [] E0 (tCons (tCount (tVar 1) (tCons (tVar 5) tNil)) tNil)) tNil))) (gName 6)) (tIfS (tOr (tTest (tOp rIsN (tVar 4) (tC .non))) (tB (tCall (sp_is_less K) [] E0 (tCons (rIxU K (tVar 4) (tC (.int 0))) (tCons (tVar 6) tNil))))) (tAsg (tTupU (tCons (tVar 6) (tCons (tVar 5) tNil))) (gName 4)) tNext))) (tAsg (tOp (rAddU K) (tVar 1) (tTupU (tCons (rIxU K (tVar 4) (tC (.int 1))) tNil))) (gName 1))))) (tRet (tVar 1))))
theorem isN_tup (xs : List D) (I : Hp) (v : V) (h : Rp K I (.tup xs) v) : decide (v = .non) = false := by
  obtain ⟨a, vs, e, _⟩ := h
  rw [e]
  rfl
theorem st_by_debts (lk : Bool) (R : Rounds) (w : Wf R) : StS K lk (t_by_debts K) (startS 7 [.d (rsD R)]) (Fn fun d => d = .tf (byQ R)) := by
  have hl := w.len
  refine st_letD (eu_tupF [] ea_nil) ?_
  refine st_forq (js := [2, 3]) (it_enumT (ev_v rfl)) (fun i ρ => ∃ x2 x3 x4 x5 x6, ρ = [.dat (rsD R), .dat (.tf (byTo R i)), x2, x3, x4, x5, x6]) ⟨_, _, _, _, _, rfl⟩ (fun i x ρ1 hx iv => ?_) fun ρ' iv => ?_
  · obtain ⟨x2, x3, x4, x5, x6, rfl⟩ := iv
    obtain ⟨x0, hx0, rfl⟩ := enumD_inv hx
    obtain ⟨r, hr, rfl⟩ := get_row hx0
    have hi : i < R.length := (List.getElem?_eq_some_iff.mp hr).1
    have wr := w.rows r (List.mem_of_getElem? hr)
    have bl : (byTo R i).length = i := by_len (by omega)
    refine ⟨_, tg_tup2, ?_⟩
    refine st_letD ev_non ?_
    refine st_forq (js := [5]) (is_lst (ev_call r (ea_cons (ev_v rfl) ea_nil) wr.len)) (fun j ρ => ∃ x5 x6, ρ = [.dat (rsD R), .dat (.tf (byTo R i)), .dat (.int (i : Nat)), .dat (rowD r), .dat (bestD (bestQ R (byTo R i) i ((canQ r).take j))), x5, x6]) ⟨_, _, rfl⟩ (fun j x ρ1 hx iv => ?_) fun ρ' iv => ?_
    · obtain ⟨x5, x6, rfl⟩ := iv
      rw [List.getElem?_map] at hx
      cases hg : (canQ r)[j]? with
      | none => rw [hg] at hx; cases hx
      | some s =>
        rw [hg] at hx
        have hx : D.str s = x := Option.some.inj hx
        subst hx
        refine ⟨_, tg_name, ?_⟩
        have hc : (byTo R i).count s ≤ 20 := by
          have h1 : (byTo R i).count s ≤ (byTo R i).length := List.count_le_length
          omega
        refine st_let (ev_call ((dueQ R s (i + 1), ((((byTo R i).count s : Nat) : Int) : Rat)) : Q2) (ea_cons (eu_ixT (ev_call ((R, s) : Rounds × Str) (ea_cons (ev_v rfl) (ea_cons (ev_v rfl) ea_nil)) w) (ev_v rfl) (at_due hi)) (ea_cons (ev_call (((byTo R i).count s : Nat) : Int) (ea_cons (eu_count (ev_v rfl) (ev_v rfl)) ea_nil) True.intro) ea_nil)) ⟨due_small w s _, small_nat (by omega)⟩) fun d e => ?_
        have e : d = fD (debtQ R (byTo R i) i s) := e
        subst e
        have step : bestQ R (byTo R i) i ((canQ r).take (j + 1)) = better R (byTo R i) i (bestQ R (byTo R i) i ((canQ r).take j)) s := by
          unfold bestQ
          rw [take_succ_of hg, List.foldl_append]
          rfl
        rw [step]
        cases hb : bestQ R (byTo R i) i ((canQ r).take j) with
        | none =>
          refine st_if (b := true) (et_or' (T := fun b => b = true) (et_test (eu_isN (ev_v rfl) ev_non true fun I v h => by rw [show v = .non from h]; rfl)) (fun _ => rfl) fun z => Bool.noConfusion z) (fun _ => ?_) fun z => Bool.noConfusion z
          refine st_asg (eu_tup (ds := [fD (debtQ R (byTo R i) i s), .str s]) (ea_cons (ev_v rfl) (ea_cons (ev_v rfl) ea_nil))) fun d e => ⟨.dat (.str s), .dat (fD (debtQ R (byTo R i) i s)), ?_⟩
          rw [e]
          rfl
        | some p =>
          have hp : Small p.1 := by
            rcases better_mem R (byTo R i) i _ none p hb with ⟨t, ep, _⟩ | z
            · rw [ep]; exact debt_small w (by omega) i t
            · cases z
          refine st_if (b := decide (p.1 < debtQ R (byTo R i) i s)) (eb_is (et_or (et_test (eu_isN (ev_v rfl) ev_non false fun I v h => isN_tup _ I v h)) fun _ => ev_less rfl (eu_ixT (d := fD p.1) (ev_v rfl) ev_int rfl) (ev_v rfl) hp (debt_small w (by omega) i s)) (Bool.false_or _)) (fun hb => ?_) fun hb => ?_
          · refine st_asg (eu_tup (ds := [fD (debtQ R (byTo R i) i s), .str s]) (ea_cons (ev_v rfl) (ea_cons (ev_v rfl) ea_nil))) fun d e => ⟨.dat (.str s), .dat (fD (debtQ R (byTo R i) i s)), ?_⟩
            have : better R (byTo R i) i (some p) s = some (debtQ R (byTo R i) i s, s) := by
              show (if p.1 < _ then _ else _) = _
              rw [if_pos (of_decide_eq_true hb)]
            rw [e, this]
            rfl
          · refine st_next ⟨.dat (.str s), .dat (fD (debtQ R (byTo R i) i s)), ?_⟩
            have : better R (byTo R i) i (some p) s = some p := by
              show (if p.1 < _ then _ else _) = _
              rw [if_neg (of_decide_eq_false hb)]
            rw [this]
            rfl
    · obtain ⟨x5, x6, rfl⟩ := iv
      rw [List.length_map, List.take_length, (best_some (R := R) (ps := byTo R i) (k := i) (can_ne wr)).1]
      refine st_asg (eu_catF (ev_v rfl) (eu_tupF [pickQ R (byTo R i) i (canQ r)] (ea_cons (eu_ixT (d := .str (pickQ R (byTo R i) i (canQ r))) (ev_v rfl) ev_int rfl) ea_nil)) (by rw [bl, List.length_singleton]; omega)) fun d e => ?_
      subst e
      rw [← by_succ hr]
      exact ⟨_, _, _, _, _, rfl⟩
  · obtain ⟨x2, x3, x4, x5, x6, rfl⟩ := iv
    refine st_ret (ev_v rfl) fun d e => ?_
    show d = _
    rw [e, enumD_len, List.length_map]
    rfl
theorem run_by_debts : ∀ vs H Q E, sp_by_debts K vs H Q E → t_by_debts K { nx := fun _ H' => Q .non H', rt := Q } (L2.start ["rounds", "payers", "place", "row", "best_one", "name", "debt"] vs) H := sp_run 7 rfl fun lk _ R h => st_by_debts lk R h
end
end RF

set_option Elab.async false
set_option linter.all false
set_option maxRecDepth 100000
set_option maxHeartbeats 4000000
set_option autoImplicit false
set_option exponentiation.threshold 6000
namespace RF
open PySem L2

theorem sortS_idem (xs : List Str) : sortS (sortS xs) = sortS xs := pw_unique (sortS_perm _) (sortS_sorted _) (sortS_sorted _)
theorem sort_names (R : Rounds) : sortS (namesQ R) = namesQ R := sortS_idem _
section
variable {K : PySem.W.Frag} {lk : Bool} {ρ : List Sl} {ta tb te : TE} {a b q : Rat}
/-! _law_names -/
def sp_law_names (K : PySem.W.Frag) : Sp := sp_names K
/-- slots: 0 rounds, 1 found, 2 row, 3 name, 4 weight, 5 can -/
def t_law_names (K : PySem.W.Frag) : TS := (tSeq (tAsg (eOr tDNewK tDNewT) (gName 1)) (tSeq (tFor (iSeq K (tVar 0)) (gName 2) (tFor (iSeq K (tVar 2)) (gTup K 3 (gCons (gName 3) (gCons (gName 4) (gCons (gName 5) gNil)))) (sPutU (tVar 1) (tVar 3) (tC (.bl true))))) (tRet (tCB (rSortedU K) (tCons (tVar 1) tNil)))))
theorem fold_len {α : Type} (v : α) (ks : List Key) : (dFold v [] ks).length ≤ ks.length := by
  have := dFold_len v ks []
  simpa using this
theorem st_law_names (lk : Bool) (R : Rounds) (h : preR R) : StS K lk (t_law_names K) (startS 6 [.d (rsD R)]) (Fn fun d => d = .lst ((namesQ R).map D.str)) := by
  have hl := allN_len h.2.1
  have h20 := h.1
  have cut : ∀ i, (allN (R.take i)).length ≤ 160 := fun i => by
    have z := allN_len (R := R.take i) fun r hr => h.2.1 r (List.mem_of_mem_take hr)
    have : (R.take i).length ≤ R.length := by rw [List.length_take]; omega
    omega
  refine st_newK ?_
  refine st_forq (js := [2]) (is_tup (ev_v rfl)) (fun i ρ => ∃ x2 x3 x4 x5, ρ = [.dat (rsD R), .dk (dFold (.bl true) [] ((allN (R.take i)).map Sum.inr)), x2, x3, x4, x5]) ⟨_, _, _, _, rfl⟩ (fun i x ρ1 hx iv => ?_) fun ρ' iv => ?_
  · obtain ⟨x2, x3, x4, x5, rfl⟩ := iv
    obtain ⟨r, hr, rfl⟩ := get_row hx
    have hr8 := h.2.1 r (List.mem_of_getElem? hr)
    refine ⟨_, tg_name, ?_⟩
    refine st_forD (js := [3, 4, 5]) (is_tup (ev_v rfl)) (fun j ρ => ∃ x3 x4 x5, ρ = [.dat (rsD R), .dk (dFold (.bl true) [] ((allN (R.take i) ++ (r.take j).map (·.1)).map Sum.inr)), .dat (rowD r), x3, x4, x5]) ⟨_, _, _, by rw [List.take_zero, List.map_nil, List.append_nil]; rfl⟩ (fun j x ρ1 hx iv => ?_) fun ρ' iv => ?_
    · obtain ⟨x3, x4, x5, rfl⟩ := iv
      rw [List.getElem?_map] at hx
      cases hg : r[j]? with
      | none => rw [hg] at hx; cases hx
      | some g =>
        rw [hg] at hx
        have hx : gD g = x := Option.some.inj hx
        subst hx
        refine ⟨_, tg_tup3, ?_⟩
        refine st_putK (k := .inr g.1) rfl (ev_v rfl) ev_bl ?_ fun d e => ⟨.dat (.str g.1), .dat (.int g.2.1), .dat (.int g.2.2), ?_⟩
        · have z := fold_len (D.bl true) ((allN (R.take i) ++ (r.take j).map (·.1)).map Sum.inr)
          have c := cut i
          rw [List.length_map, List.length_append, List.length_map, List.length_take] at z
          omega
        · subst e
          have e : putD (dFold (D.bl true) [] ((allN (R.take i) ++ (r.take j).map (·.1)).map Sum.inr)) (Sum.inr g.1 : Key) (D.bl true) = dFold (.bl true) [] ((allN (R.take i) ++ (r.take (j + 1)).map (·.1)).map Sum.inr) := by
            have e0 : allN (R.take i) ++ (r.take (j + 1)).map (·.1) = (allN (R.take i) ++ (r.take j).map (·.1)) ++ [g.1] := by
              rw [take_succ_of hg, List.map_append, List.append_assoc]
              rfl
            rw [e0]
            generalize allN (R.take i) ++ (r.take j).map (·.1) = zs
            rw [List.map_append, dFold_append]
            rfl
          rw [e]
          rfl
    · obtain ⟨x3, x4, x5, rfl⟩ := iv
      have e1 : r.take (r.map gD).length = r := by rw [List.length_map, List.take_length]
      have e : allN (R.take i) ++ r.map (·.1) = allN (R.take (i + 1)) := by
        unfold allN
        rw [take_succ_of hr, List.flatMap_append]
        simp
      rw [e1, e]
      exact ⟨_, _, _, _, rfl⟩
  · obtain ⟨x2, x3, x4, x5, rfl⟩ := iv
    rw [List.length_map, List.take_length]
    exact st_ret (eu_sortedO (ks := dd (allN R)) rfl (keys_dd _ _) (by have := h.2.2; omega)) fun d e => e
theorem run_law_names : ∀ vs H Q E, sp_law_names K vs H Q E → t_law_names K { nx := fun _ H' => Q .non H', rt := Q } (L2.start ["rounds", "found", "row", "name", "weight", "can"] vs) H := sp_run 6 rfl fun lk _ R h => st_law_names lk R h
/-! _law_dues -/
def dueKV (R : Rounds) : List (Key × D) := (namesQ R).map fun s => (Sum.inr s, .tup ((dueRow R s).map fD))
def sp_law_dues (K : PySem.W.Frag) : Sp := spP K false (fun R : Rounds => [.d (rsD R)]) Wf (fun R d => d = .dk (dueKV R))
/-- slots: 0 rounds, 1 found, 2 name, 3 last, 4 row_so, 5 row, 6 mine, 7 guest, 8 weight, 9 can -/
def t_law_dues (K : PySem.W.Frag) : TS := (tSeq (tAsg (eOr tDNewK tDNewT) (gName 1)) (tSeq (tFor (iSeq K (tCall (sp_law_names K) [] E0 (tCons (tVar 0) tNil))) (gName 2) (tSeq (tPar 3 4 (tCons (tTupU (tCons (tC (.int 0)) (tCons (tC (.int 1)) tNil))) (tCons (tLst tNil) tNil))) (tSeq (tFor (iSeq K (tVar 0)) (gName 5) (tSeq (tAsg (tCB (rSum K) (tCons (tLc (iSeq K (tVar 5)) (gTup K 3 (gCons (gName 7) (gCons (gName 8) (gCons (gName 9) gNil)))) (tTest (tOp (rEqU K) (tVar 7) (tVar 2))) (tVar 8) [7, 8, 9]) tNil)) (gName 6)) (tSeq (tAsg (tCall (sp_law_sum K) [] E0 (tCons (tVar 3) (tCons (tCall (sp_law_frac K) [] E0 (tCons (tVar 6) (tCons (tCB (rSum K) (tCons (tLc (iSeq K (tVar 5)) (gTup K 3 (gCons (gName 7) (gCons (gName 8) (gCons (gName 9) gNil)))) tYes (tVar 8) [7, 8, 9]) tNil)) tNil))) tNil))) (gName 3)) (tDrop (tBM K "list" rAppend (tVar 4) (tCons (tVar 3) tNil)))))) (sPutU (tVar 1) (tVar 2) (tCB (rTupU K) (tCons (tVar 4) tNil)))))) (tRet (tVar 1))))
theorem putD_new {κ α : Type} [DecidableEq κ] {kvs : List (κ × α)} {k : κ} {v : α} (h : k ∉ kvs.map (·.1)) : putD kvs k v = kvs ++ [(k, v)] := by
  unfold putD
  rw [if_neg]
  intro z
  obtain ⟨p, hp, e⟩ := List.any_eq_true.mp z
  exact h (List.mem_map.mpr ⟨p, hp, of_decide_eq_true e⟩)
theorem not_mem_take {α : Type} {xs : List α} {i : Nat} {x : α} (hn : xs.Nodup) (h : xs[i]? = some x) : x ∉ xs.take i := fun z => by
  have e := List.take_append_drop i xs
  rw [← e, List.nodup_append] at hn
  have hd : x ∈ xs.drop i := by
    obtain ⟨hl, hx⟩ := List.getElem?_eq_some_iff.mp h
    rw [List.drop_eq_getElem_cons hl, hx]
    simp
  exact hn.2.2 x z x hd rfl
theorem dueKV_put {R : Rounds} {i : Nat} {s : Str} (h : (namesQ R)[i]? = some s) : putD ((dueKV R).take i) (Sum.inr s : Key) (.tup ((dueRow R s).map fD)) = (dueKV R).take (i + 1) := by
  have e1 : (dueKV R)[i]? = some (Sum.inr s, .tup ((dueRow R s).map fD)) := by
    unfold dueKV
    rw [List.getElem?_map, h]
    rfl
  rw [take_succ_of e1]
  refine putD_new fun z => ?_
  have e2 : ((dueKV R).take i).map (·.1) = ((namesQ R).take i).map Sum.inr := by
    unfold dueKV
    rw [← List.map_take, List.map_map]
    rfl
  rw [e2] at z
  obtain ⟨t, ht, e⟩ := List.mem_map.mp z
  cases e
  exact not_mem_take (names_nodup R) h ht
theorem dueKV_keys (R : Rounds) : (dueKV R).map (·.1) = (namesQ R).map Sum.inr := by unfold dueKV; rw [List.map_map]; rfl
theorem dueKV_get {R : Rounds} {s : Str} (h : s ∈ namesQ R) : getD' (dueKV R) (Sum.inr s : Key) = some (.tup ((dueRow R s).map fD)) := by
  have key : ∀ ns : List Str, s ∈ ns → getD' (ns.map fun s => ((Sum.inr s : Key), D.tup ((dueRow R s).map fD))) (Sum.inr s) = some (.tup ((dueRow R s).map fD)) := fun ns => by
    induction ns with
    | nil => intro h; cases h
    | cons t ns ih =>
      intro h
      rw [List.map_cons, getD'_cons]
      by_cases e : t = s
      · subst e; rw [if_pos rfl]
      · rw [if_neg (fun z => e (Sum.inr.inj z))]
        exact ih ((List.mem_cons.mp h).resolve_left fun z => e z.symm)
  exact key _ h
theorem st_law_dues (lk : Bool) (R : Rounds) (w : Wf R) : StS K lk (t_law_dues K) (startS 10 [.d (rsD R)]) (Fn fun d => d = .dk (dueKV R)) := by
  have hl := w.len
  have h40 := names_len w
  refine st_newK ?_
  refine st_forq (js := [2]) (is_lst (ev_names rfl (ev_v rfl) w.preR)) (fun i ρ => ∃ x2 x3 x4 x5 x6 x7 x8 x9, ρ = [.dat (rsD R), .dk ((dueKV R).take i), x2, x3, x4, x5, x6, x7, x8, x9]) ⟨_, _, _, _, _, _, _, _, rfl⟩ (fun i x ρ1 hx iv => ?_) fun ρ' iv => ?_
  · obtain ⟨x2, x3, x4, x5, x6, x7, x8, x9, rfl⟩ := iv
    rw [List.getElem?_map] at hx
    cases hs : (namesQ R)[i]? with
    | none => rw [hs] at hx; cases hx
    | some s =>
      rw [hs] at hx
      have hx : D.str s = x := Option.some.inj hx
      subst hx
      refine ⟨_, tg_name, ?_⟩
      refine st_parLq (d := fD 0) (eu_tup (ds := [.int 0, .int 1]) (ea_cons ev_int (ea_cons ev_int ea_nil))) ?_
      refine st_forq (js := [5]) (is_tup (ev_v rfl)) (fun j ρ => ∃ x5 x6 x7 x8 x9, ρ = [.dat (rsD R), .dk ((dueKV R).take i), .dat (.str s), .dat (fD (dueQ R s j)), .lst (((dueRow R s).take j).map fD), x5, x6, x7, x8, x9]) ⟨_, _, _, _, _, rfl⟩ (fun j x ρ1 hx iv => ?_) fun ρ' iv => ?_
      · obtain ⟨x5, x6, x7, x8, x9, rfl⟩ := iv
        obtain ⟨r, hr, rfl⟩ := get_row hx
        have hj : j < R.length := (List.getElem?_eq_some_iff.mp hr).1
        have wr := w.rows r (List.mem_of_getElem? hr)
        have l8 := wr.len
        refine ⟨_, tg_name, ?_⟩
        refine st_letD (eu_sum (ns := (r.filter fun g => decide (g.1 = s)).map (·.2.1)) (ev_is (ev_guests (r := r) (ev_v rfl) (by omega) (fun g => decide (g.1 = s)) (fun g => .int g.2.1) fun g _ => ⟨et_test (eu_eqS (ev_v rfl) (ev_v rfl)), fun _ => ev_v rfl⟩) (by rw [List.map_map]; rfl))) ?_
        refine st_let (ev_call ((dueQ R s j, partQ r s) : Q2) (ea_cons (ev_v rfl) (ea_cons (ev_call ((mineQ r s, wtQ r) : TI2) (ea_cons (ev_v rfl) (ea_cons (eu_sum (ns := r.map (·.2.1)) (ev_is (ev_guests (r := r) (ev_v rfl) (by omega) (fun g => true) (fun g => .int g.2.1) fun g _ => ⟨et_yes, fun _ => ev_v rfl⟩) (by rw [List.filter_eq_self.mpr fun _ _ => rfl, List.map_map]; rfl))) ea_nil)) (wt_pre wr)) ea_nil)) ⟨due_small w s j, part_small wr s⟩) fun d e => ?_
        have e : d = fD (dueQ R s j + partQ r s) := e
        rw [← due_succ hr] at e
        subst e
        refine st_app' (P := fun x => x = fD (dueQ R s (j + 1))) rfl (ev_v rfl) (by rw [List.length_map, List.length_take, due_row_len]; omega) fun d e => ⟨.dat (rowD r), .dat (.int (mineQ r s)), x7, x8, x9, ?_⟩
        subst e
        rw [due_row_take hj]
        rfl
      · obtain ⟨x5, x6, x7, x8, x9, rfl⟩ := iv
        rw [List.length_map, ← due_row_len R s, List.take_length]
        refine st_putK (k := .inr s) rfl (ev_v rfl) (eu_tupO rfl) ?_ fun d e => ?_
        · rw [List.length_take]
          have : (dueKV R).length = (namesQ R).length := by unfold dueKV; rw [List.length_map]
          omega
        · subst e
          rw [dueKV_put hs]
          exact ⟨_, _, _, _, _, _, _, _, rfl⟩
  · obtain ⟨x2, x3, x4, x5, x6, x7, x8, x9, rfl⟩ := iv
    refine st_retK rfl ?_
    show D.dk _ = _
    have : (dueKV R).length = (namesQ R).length := by unfold dueKV; rw [List.length_map]
    rw [List.length_map, ← this, List.take_length]
theorem run_law_dues : ∀ vs H Q E, sp_law_dues K vs H Q E → t_law_dues K { nx := fun _ H' => Q .non H', rt := Q } (L2.start ["rounds", "found", "name", "last", "row_so", "row", "mine", "guest", "weight", "can"] vs) H := sp_run 10 rfl fun lk _ R h => st_law_dues lk R h
/-! _law_gap -/
def gapN (R : Rounds) (k : Nat) (s : Str) (c : Int) : Rat := absQ (dueQ R s (k + 1) - (c : Rat))
def gapG (R : Rounds) (k : Nat) (scs : List (Str × Int)) : Rat := scs.foldl (fun q sc => maxQ q (gapN R k sc.1 sc.2)) 0
abbrev GapA : Type := Rounds × Nat × List Int
def sp_law_gap (K : PySem.W.Frag) : Sp := spP K false (fun x : GapA => [.d (.dk (dueKV x.1)), .d (.int (x.2.1 : Int)), .d (.lst (x.2.2.map D.int))]) (fun x => Wf x.1 ∧ x.2.1 < x.1.length ∧ ∀ c ∈ x.2.2, c.natAbs ≤ 1000) (fun x d => d = fD (gapG x.1 x.2.1 ((namesQ x.1).zip x.2.2)))
/-- slots: 0 dues_so, 1 place, 2 counts, 3 found, 4 name, 5 count, 6 gap -/
def t_law_gap (K : PySem.W.Frag) : TS := (tSeq (tAsg (tTupU (tCons (tC (.int 0)) (tCons (tC (.int 1)) tNil))) (gName 3)) (tSeq (tFor (iZipU K (tCons (tCB (rSortedU K) (tCons (tVar 0) tNil)) (tCons (tVar 2) tNil))) (gTup K 2 (gCons (gName 4) (gCons (gName 5) gNil))) (tSeq (tAsg (tCall (sp_law_less K) [] E0 (tCons (rIxU K (rIxU K (tVar 0) (tVar 4)) (tVar 1)) (tCons (tTupU (tCons (tVar 5) (tCons (tC (.int 1)) tNil))) tNil))) (gName 6)) (tSeq (tAsg (tTupU (tCons (tCB rAbs (tCons (rIxU K (tVar 6) (tC (.int 0))) tNil)) (tCons (rIxU K (tVar 6) (tC (.int 1))) tNil))) (gName 6)) (tAsg (tIf (tB (tCall (sp_law_below K) [] E0 (tCons (tVar 3) (tCons (tVar 6) tNil)))) (tVar 6) (tVar 3)) (gName 3))))) (tRet (tVar 3))))
theorem int_bq {c : Int} (h : c.natAbs ≤ 1000) : Bq 1000 (c : Rat) := ⟨by rw [Rat.num_intCast]; exact h, by rw [Rat.den_intCast]; omega⟩
theorem gapN_bq {R : Rounds} (w : Wf R) (k : Nat) (s : Str) {c : Int} (h : c.natAbs ≤ 1000) : Bq (2 ^ 900) (dueQ R s (k + 1) - (c : Rat)) := by
  refine ((due_bq w s (k + 1)).sub (int_bq h)).mono ?_
  have : (2 : Nat) ^ 900 = 2 ^ 880 * 2 ^ 20 := by rw [← Nat.pow_add]
  rw [this]
  have : (2 : Nat) ^ 20 = 1048576 := by decide
  generalize (2 : Nat) ^ 880 = x
  omega
theorem int_small {c : Int} (h : c.natAbs ≤ 1000) : Small (c : Rat) := (int_bq h).small (by decide)
theorem gapG_bq {R : Rounds} (w : Wf R) (k : Nat) (scs : List (Str × Int)) (h : ∀ x ∈ scs, x.2.natAbs ≤ 1000) : ∀ q : Rat, Bq (2 ^ 900) q → Bq (2 ^ 900) (scs.foldl (fun q sc => maxQ q (gapN R k sc.1 sc.2)) q) := by
  induction scs with
  | nil => exact fun q h => h
  | cons x xs ih => exact fun q hq => ih (fun y hy => h y (List.mem_cons_of_mem _ hy)) _ (hq.max (gapN_bq w k x.1 (h x (by simp))).abs)
theorem zip_names {R : Rounds} {cs : List Int} {i : Nat} {x : D} (h : (zipD ((namesQ R).map D.str) (cs.map D.int))[i]? = some x) : ∃ s c, ((namesQ R).zip cs)[i]? = some (s, c) ∧ x = .tup [.str s, .int c] := by
  obtain ⟨a, b, h1, h2, e⟩ := zipD_inv h
  rw [List.getElem?_map] at h1 h2
  cases hs : (namesQ R)[i]? with
  | none => rw [hs] at h1; cases h1
  | some s =>
    cases hc : cs[i]? with
    | none => rw [hc] at h2; cases h2
    | some c =>
      rw [hs] at h1
      rw [hc] at h2
      cases h1
      cases h2
      exact ⟨s, c, List.getElem?_zip_eq_some.mpr ⟨hs, hc⟩, e⟩
theorem ev_sortDues {R : Rounds} (w : Wf R) (h : EvD K lk ta ρ (.dk (dueKV R))) : EvD K lk (tCB (rSortedU K) (tCons ta tNil)) ρ (.lst ((namesQ R).map D.str)) := ev_is (eu_sortedD (ks := namesQ R) h (dueKV_keys R) (by have := names_len w; omega)) (by rw [sort_names])
theorem st_law_gap (lk : Bool) (x : GapA) (h : Wf x.1 ∧ x.2.1 < x.1.length ∧ ∀ c ∈ x.2.2, c.natAbs ≤ 1000) : StS K lk (t_law_gap K) (startS 7 [.d (.dk (dueKV x.1)), .d (.int (x.2.1 : Int)), .d (.lst (x.2.2.map D.int))]) (Fn fun d => d = fD (gapG x.1 x.2.1 ((namesQ x.1).zip x.2.2))) := by
  obtain ⟨R, k, cs⟩ := x
  obtain ⟨w, hk, hc⟩ := h
  dsimp only at w hk hc ⊢
  refine st_letD (d := fD 0) (eu_tup (ds := [.int 0, .int 1]) (ea_cons ev_int (ea_cons ev_int ea_nil))) ?_
  refine st_forq (js := [4, 5]) (it_zipL (ev_sortDues w (ev_v rfl)) (ev_v rfl)) (fun i ρ => ∃ x4 x5 x6, ρ = [.dat (.dk (dueKV R)), .dat (.int (k : Int)), .dat (.lst (cs.map D.int)), .dat (fD (gapG R k (((namesQ R).zip cs).take i))), x4, x5, x6]) ⟨_, _, _, rfl⟩ (fun i x ρ1 hx iv => ?_) fun ρ' iv => ?_
  · obtain ⟨x4, x5, x6, rfl⟩ := iv
    obtain ⟨s, c, hz, rfl⟩ := zip_names hx
    obtain ⟨hs, hcc⟩ := List.getElem?_zip_eq_some.mp hz
    have sm : s ∈ namesQ R := List.mem_of_getElem? hs
    have cm := hc c (List.mem_of_getElem? hcc)
    refine ⟨_, tg_tup2, ?_⟩
    refine st_let (ev_call ((dueQ R s (k + 1), (c : Rat)) : Q2) (ea_cons (eu_ixT (eu_dget (k := .inr s) (ev_v rfl) (ev_v rfl) (dueKV_get sm)) (ev_v rfl) (at_due hk)) (ea_cons (ev_whole (ev_v rfl)) ea_nil)) ⟨due_small w s _, int_small cm⟩) fun d e => ?_
    have e : d = fD (dueQ R s (k + 1) - (c : Rat)) := e
    subst e
    refine st_letD (ev_abs (ev_v rfl)) ?_
    have hb : Bq (2 ^ 900) (gapG R k (((namesQ R).zip cs).take i)) := gapG_bq w k _ (fun x hx => hc _ (List.of_mem_zip (List.mem_of_mem_take hx)).2) 0 (.zero (Nat.pos_of_ne_zero (by decide)))
    refine st_asg (ev_maxQ rfl (ev_v rfl) (ev_v rfl) (bq_small hb) (bq_small (gapN_bq w k s cm).abs)) fun d e => ?_
    have e2 : gapG R k (((namesQ R).zip cs).take (i + 1)) = maxQ (gapG R k (((namesQ R).zip cs).take i)) (gapN R k s c) := by
      unfold gapG
      rw [take_succ_of hz, List.foldl_append]
      rfl
    subst e
    refine ⟨.dat (.str s), .dat (.int c), .dat (fD (gapN R k s c)), ?_⟩
    rw [e2]
    rfl
  · obtain ⟨x4, x5, x6, rfl⟩ := iv
    refine st_ret (ev_v rfl) fun d e => ?_
    show d = _
    rw [e, zipD_len, List.length_map, List.length_map, ← List.length_zip, List.take_length]
theorem run_law_gap : ∀ vs H Q E, sp_law_gap K vs H Q E → t_law_gap K { nx := fun _ H' => Q .non H', rt := Q } (L2.start ["dues_so", "place", "counts", "found", "name", "count", "gap"] vs) H := sp_run 7 rfl fun lk _ x h => st_law_gap lk x h
end
end RF

set_option Elab.async false
set_option linter.all false
set_option maxRecDepth 100000
set_option maxHeartbeats 4000000
set_option autoImplicit false
set_option exponentiation.threshold 6000
namespace RF
open PySem L2

/-! ### greatest -/
theorem max_le {a b c : Rat} : maxQ a b ≤ c ↔ a ≤ c ∧ b ≤ c := by
  unfold maxQ
  by_cases h : a < b
  · rw [if_pos h]
    constructor
    · intro z; exact ⟨by grind, z⟩
    · exact fun z => z.2
  · rw [if_neg h]
    constructor
    · intro z; exact ⟨z, by grind⟩
    · exact fun z => z.1
theorem fold_max_le {α : Type} (f : α → Rat) (c : Rat) : ∀ (xs : List α) (q : Rat), xs.foldl (fun q x => maxQ q (f x)) q ≤ c ↔ q ≤ c ∧ ∀ x ∈ xs, f x ≤ c
  | [], q => by simp
  | x :: xs, q => by
    rw [List.foldl_cons, fold_max_le f c xs, max_le]
    constructor
    · rintro ⟨⟨a, b⟩, h⟩
      exact ⟨a, fun y hy => (List.mem_cons.mp hy).elim (fun e => e ▸ b) (h y)⟩
    · rintro ⟨a, h⟩
      exact ⟨⟨a, h x (by simp)⟩, fun y hy => h y (List.mem_cons_of_mem _ hy)⟩
theorem eq_of_ups {a b : Rat} (h : ∀ c, a ≤ c ↔ b ≤ c) : a = b := Rat.le_antisymm ((h b).mpr Rat.le_refl) ((h a).mp Rat.le_refl)
theorem unf_le {R : Rounds} {ps : List Str} {c : Rat} : unfQ R ps ≤ c ↔ 0 ≤ c ∧ ∀ s ∈ namesQ R, ∀ k, k < ps.length → gapQ R ps s k ≤ c := by
  unfold unfQ
  have key : ∀ (ns : List Str) (q : Rat), ns.foldl (fun q s => unfRow R ps s q ps.length) q ≤ c ↔ q ≤ c ∧ ∀ s ∈ ns, ∀ k, k < ps.length → gapQ R ps s k ≤ c := fun ns => by
    induction ns with
    | nil => intro q; simp
    | cons n ns ih =>
      intro q
      rw [List.foldl_cons, ih]
      unfold unfRow
      rw [fold_max_le (gapQ R ps n) c]
      constructor
      · rintro ⟨⟨a, b⟩, h⟩
        exact ⟨a, fun y hy => (List.mem_cons.mp hy).elim (fun e k hk => e ▸ b k (List.mem_range.mpr hk)) (h y)⟩
      · rintro ⟨a, h⟩
        exact ⟨⟨a, fun k hk => h n (by simp) k (List.mem_range.mp hk)⟩, fun y hy => h y (List.mem_cons_of_mem _ hy)⟩
  exact key _ _
/-- the greatest gap behind one round -/
def gapAt (R : Rounds) (ps : List Str) (k : Nat) : Rat := (namesQ R).foldl (fun q s => maxQ q (gapQ R ps s k)) 0
theorem gapG_counts (R : Rounds) (ps : List Str) (k : Nat) : gapG R k ((namesQ R).zip ((namesQ R).map fun s => ((paidQ ps s (k + 1) : Nat) : Int))) = gapAt R ps k := by
  unfold gapG gapAt
  have key : ∀ (ns : List Str) (q : Rat), (ns.zip (ns.map fun s => ((paidQ ps s (k + 1) : Nat) : Int))).foldl (fun q sc => maxQ q (gapN R k sc.1 sc.2)) q = ns.foldl (fun q s => maxQ q (gapQ R ps s k)) q := fun ns => by
    induction ns with
    | nil => intro q; rfl
    | cons n ns ih => intro q; rw [List.map_cons, List.zip_cons_cons, List.foldl_cons, List.foldl_cons, ih]; rfl
  exact key _ _
def unf2 (R : Rounds) (ps : List Str) (n : Nat) : Rat := (List.range n).foldl (fun q k => maxQ q (gapAt R ps k)) 0
theorem unf_same (R : Rounds) (ps : List Str) : unf2 R ps ps.length = unfQ R ps := eq_of_ups fun c => by
  unfold unf2
  rw [unf_le, fold_max_le (gapAt R ps) c]
  constructor
  · rintro ⟨a, h⟩
    refine ⟨a, fun s hs k hk => ?_⟩
    have z := h k (List.mem_range.mpr hk)
    unfold gapAt at z
    rw [fold_max_le (fun s => gapQ R ps s k) c] at z
    exact z.2 s hs
  · rintro ⟨a, h⟩
    refine ⟨a, fun k hk => ?_⟩
    unfold gapAt
    rw [fold_max_le (fun s => gapQ R ps s k) c]
    exact ⟨a, fun s hs => h s hs k (List.mem_range.mp hk)⟩
section
variable {K : PySem.W.Frag} {lk : Bool} {ρ : List Sl} {ta tb te : TE} {a b q : Rat} {P : D → Prop} {u : TS} {p : Po} {d : D}
/-! _law_unfair -/
def sp_law_unfair (K : PySem.W.Frag) : Sp := sp_unfairness K
/-- slots: 0 rounds, 1 payers, 2 dues_so, 3 found, 4 place, 5 counts, 6 name, 7 gap -/
def t_law_unfair (K : PySem.W.Frag) : TS := (tSeq (tPar 2 3 (tCons (tCall (sp_law_dues K) [] E0 (tCons (tVar 0) tNil)) (tCons (tTupU (tCons (tC (.int 0)) (tCons (tC (.int 1)) tNil))) tNil))) (tSeq (tFor (iRng1 (tCons (tCB (rLenU K) (tCons (tVar 1) tNil)) tNil)) (gName 4) (tSeq (tAsg (tLc (iSeq K (tCB (rSortedU K) (tCons (tVar 2) tNil))) (gName 6) tYes (tCount (tSl (slU K) (tVar 1) tNoPart (tPart (tOp (rAddU K) (tVar 4) (tC (.int 1))))) (tCons (tVar 6) tNil)) [6]) (gName 5)) (tSeq (tAsg (tCall (sp_law_gap K) [] E0 (tCons (tVar 2) (tCons (tVar 4) (tCons (tVar 5) tNil)))) (gName 7)) (tAsg (tIf (tB (tCall (sp_law_below K) [] E0 (tCons (tVar 3) (tCons (tVar 7) tNil)))) (tVar 7) (tVar 3)) (gName 3))))) (tRet (tVar 3))))
theorem gapAt_bq {R : Rounds} (w : Wf R) {ps : List Str} (hp : ps.length ≤ R.length) (k : Nat) : Bq (2 ^ 900) (gapAt R ps k) := by
  unfold gapAt
  have key : ∀ (ns : List Str) (q : Rat), Bq (2 ^ 900) q → Bq (2 ^ 900) (ns.foldl (fun q s => maxQ q (gapQ R ps s k)) q) := fun ns => by
    induction ns with
    | nil => exact fun q h => h
    | cons n ns ih => exact fun q h => ih _ (h.max (gap_bq w hp n k))
  exact key _ _ (.zero (Nat.pos_of_ne_zero (by decide)))
theorem unf2_bq {R : Rounds} (w : Wf R) {ps : List Str} (hp : ps.length ≤ R.length) (n : Nat) : Bq (2 ^ 900) (unf2 R ps n) := by
  unfold unf2
  have key : ∀ (ns : List Nat) (q : Rat), Bq (2 ^ 900) q → Bq (2 ^ 900) (ns.foldl (fun q k => maxQ q (gapAt R ps k)) q) := fun ns => by
    induction ns with
    | nil => exact fun q h => h
    | cons n ns ih => exact fun q h => ih _ (h.max (gapAt_bq w hp n))
  exact key _ _ (.zero (Nat.pos_of_ne_zero (by decide)))
theorem st_law_unfair (lk : Bool) (x : RP) (h : preRP x) : StS K lk (t_law_unfair K) (startS 8 (encRP x)) (Fn fun d => d = fD (unfQ x.1 x.2)) := by
  obtain ⟨R, ps⟩ := x
  obtain ⟨w, hp, hok⟩ := h
  dsimp only at w hp hok ⊢
  have hl := w.len
  have h40 := names_len w
  refine st_parq (a := .dk (dueKV R)) (b := fD 0) (ea_cons (ev_call R (ea_cons (ev_v rfl) ea_nil) w) (ea_cons (eu_tup (ds := [.int 0, .int 1]) (ea_cons ev_int (ea_cons ev_int ea_nil))) ea_nil)) ?_
  refine st_forq (js := [4]) (it_len (ps := ps) (ev_v rfl) (by omega)) (fun i ρ => ∃ x4 x5 x6 x7, ρ = [.dat (rsD R), .dat (.tf ps), .dat (.dk (dueKV R)), .dat (fD (unf2 R ps i)), x4, x5, x6, x7]) ⟨_, _, _, _, rfl⟩ (fun i x ρ1 hx iv => ?_) fun ρ' iv => ?_
  · obtain ⟨x4, x5, x6, x7, rfl⟩ := iv
    obtain ⟨hi, rfl⟩ := get_range hx
    rw [Int.zero_add]
    refine ⟨_, tg_name, ?_⟩
    refine st_letD (ev_is (ev_forNames (ns := namesQ R) (is_lst (ev_sortDues w (ev_v rfl))) (by omega) (fun s => .int ((paidQ ps s (i + 1) : Nat) : Int)) fun s hs => ev_count (i := 0) (j := 0) (ev_v rfl) (ev_v rfl) (ev_v rfl)) (y := .lst (((namesQ R).map fun s => ((paidQ ps s (i + 1) : Nat) : Int)).map D.int)) (by rw [List.map_map]; rfl)) ?_
    refine st_let (ev_call ((R, i, (namesQ R).map fun s => ((paidQ ps s (i + 1) : Nat) : Int)) : GapA) (ea_cons (ev_v rfl) (ea_cons (ev_v rfl) (ea_cons (ev_v rfl) ea_nil))) ⟨w, by show i < R.length; omega, fun c hc => ?_⟩) fun d e => ?_
    · obtain ⟨s, _, rfl⟩ := List.mem_map.mp hc
      have h1 : (ps.take (i + 1)).count s ≤ (ps.take (i + 1)).length := List.count_le_length
      have h2 : (ps.take (i + 1)).length ≤ ps.length := by rw [List.length_take]; omega
      unfold paidQ
      omega
    · have e : d = fD (gapG R i ((namesQ R).zip ((namesQ R).map fun s => ((paidQ ps s (i + 1) : Nat) : Int)))) := e
      rw [gapG_counts] at e
      subst e
      refine st_asg (ev_maxQ rfl (ev_v rfl) (ev_v rfl) (bq_small (unf2_bq w hp i)) (bq_small (gapAt_bq w hp i))) fun d e => ?_
      have e2 : unf2 R ps (i + 1) = maxQ (unf2 R ps i) (gapAt R ps i) := by
        unfold unf2
        rw [List.range_succ, List.foldl_append]
        rfl
      subst e
      refine ⟨.dat (.int (i : Int)), .dat (.lst (((namesQ R).map fun s => ((paidQ ps s (i + 1) : Nat) : Int)).map D.int)), x6, .dat (fD (gapAt R ps i)), ?_⟩
      rw [e2]
      rfl
  · obtain ⟨x4, x5, x6, x7, rfl⟩ := iv
    refine st_ret (ev_v rfl) fun d e => ?_
    show d = _
    rw [e, rangeD_len, unf_same]
theorem run_law_unfair : ∀ vs H Q E, sp_law_unfair K vs H Q E → t_law_unfair K { nx := fun _ H' => Q .non H', rt := Q } (L2.start ["rounds", "payers", "dues_so", "found", "place", "counts", "name", "gap"] vs) H := sp_run 8 rfl fun lk _ x h => st_law_unfair lk x h
/-! _law_like -/
/-- no dict within, at most n deep, not long -/
def Lk : Nat → D → Prop
  | _, .non => True
  | _, .bl _ => True
  | _, .int _ => True
  | _, .str _ => True
  | n + 1, .lst xs => xs.length ≤ 1000 ∧ ∀ x ∈ xs, Lk n x
  | n + 1, .tup xs => xs.length ≤ 1000 ∧ ∀ x ∈ xs, Lk n x
  | _, _ => False
def sp_law_like (K : PySem.W.Frag) (n : Nat) : Sp := spP K false (fun d : D => [.d d, .d d]) (Lk n) (fun _ d => d = .bl true)
/-- slots: 0 one, 1 two, 2 k -/
def t_law_like (K : PySem.W.Frag) (spr_law_like : Sp) : TS := (tSeq (tIfS (tB (tCB (rIsiU K) (tCons (tVar 0) (tCons (tTupU (tCons (tC (.ty "list")) (tCons (tC (.ty "tuple")) tNil))) tNil)))) (tSeq (tIfS (tOr (tTest (tOp (rNeU K) (tCB (rIsiU K) (tCons (tVar 0) (tCons (tC (.ty "list")) tNil))) (tCB (rIsiU K) (tCons (tVar 1) (tCons (tC (.ty "list")) tNil))))) (tTest (tOp (rNeU K) (tCB (rIsiU K) (tCons (tVar 0) (tCons (tC (.ty "tuple")) tNil))) (tCB (rIsiU K) (tCons (tVar 1) (tCons (tC (.ty "tuple")) tNil)))))) (tRet (tC (.bl false))) tNext) (tSeq (tIfS (tTest (tOp (rNeU K) (tCB (rLenU K) (tCons (tVar 0) tNil)) (tCB (rLenU K) (tCons (tVar 1) tNil)))) (tRet (tC (.bl false))) tNext) (tRet (tOp (rEqU K) (tLc (iRng1 (tCons (tCB (rLenU K) (tCons (tVar 0) tNil)) tNil)) (gName 2) (tNot (tB (tCall spr_law_like [] E0 (tCons (rIxU K (tVar 0) (tVar 2)) (tCons (rIxU K (tVar 1) (tVar 2)) tNil))))) (tVar 2) [2]) (tLst tNil))))) tNext) (tSeq (tIfS (tB (tCB (rIsiU K) (tCons (tVar 1) (tCons (tTupU (tCons (tC (.ty "list")) (tCons (tC (.ty "tuple")) tNil))) tNil)))) (tRet (tC (.bl false))) tNext) (tRet (tAndV (tOp (rEqU K) (tCB (rIsiU K) (tCons (tVar 0) (tCons (tC (.ty "bool")) tNil))) (tCB (rIsiU K) (tCons (tVar 1) (tCons (tC (.ty "bool")) tNil)))) (tOp (rEqU K) (tVar 0) (tVar 1))))))
theorem like_flat (spr : Sp) (lk : Bool) (d : D) (hd : ∀ x, d ≠ .dt x) (h1 : kitB (tyD d) "list" = some false) (h2 : kitB (tyD d) "tuple" = some false) (b : Bool) (h3 : kitB (tyD d) "bool" = some b) (he : flatD d d = true) (ht : eqF d d = true) : StS K lk (t_law_like K spr) (startS 3 [.d d, .d d]) (Fn fun x => x = .bl true) := by
  refine st_ifq (b := false) (et_B (ev_isi2 (ev_v rfl) hd h1 h2)) (fun z => Bool.noConfusion z) fun _ => ?_
  refine st_ifq (b := false) (et_B (ev_isi2 (ev_v rfl) hd h1 h2)) (fun z => Bool.noConfusion z) fun _ => ?_
  refine st_ret (ev_andV (eu_eqB (ev_isi (ev_v rfl) hd h3) (ev_isi (ev_v rfl) hd h3)) fun _ => eu_eq (ev_v rfl) (ev_v rfl) he) fun x e => ?_
  show x = _
  rw [e, ht]
  simp
theorem like_seq (n : Nat) (lk : Bool) (d : D) (xs : List D) (hd : ∀ x, d ≠ .dt x) (b1 b2 : Bool) (h1 : kitB (tyD d) "list" = some b1) (h2 : kitB (tyD d) "tuple" = some b2) (hb : (b1 || b2) = true) (hl : xs.length ≤ 1000) (hx : ∀ x ∈ xs, Lk n x)
    (len : ∀ {te : TE} {ρ : List Sl}, EvD K lk te ρ d → EvD K lk (tCB (rLenU K) (tCons te tNil)) ρ (.int xs.length)) (ix : ∀ {te tb : TE} {ρ : List Sl} {i : Nat} {x : D}, EvD K lk te ρ d → EvD K lk tb ρ (.int (i : Int)) → xs[i]? = some x → EvD K lk (rIxU K te tb) ρ x) :
    StS K lk (t_law_like K (sp_law_like K n)) (startS 3 [.d d, .d d]) (Fn fun x => x = .bl true) := by
  refine st_ifq (b := true) (eb_is (et_B (ev_isi2 (ev_v rfl) hd h1 h2)) hb) (fun _ => ?_) fun z => Bool.noConfusion z
  refine st_assoc ?_
  refine st_ifq (b := false) (eb_is (et_or (et_test (eu_neB (ev_isi (ev_v rfl) hd h1) (ev_isi (ev_v rfl) hd h1))) fun _ => et_test (eu_neB (ev_isi (ev_v rfl) hd h2) (ev_isi (ev_v rfl) hd h2))) (by simp)) (fun z => Bool.noConfusion z) fun _ => ?_
  refine st_nextq (st_assoc ?_)
  refine st_ifq (b := false) (eb_is (et_test (eu_neI (len (ev_v rfl)) (len (ev_v rfl)))) (by simp)) (fun z => Bool.noConfusion z) fun _ => ?_
  refine st_nextq ?_
  have rng : ∀ {ρ : List Sl}, ρ[0]? = some (.dat d) → ItS K lk (iRng1 (tCons (tCB (rLenU K) (tCons (tVar 0) tNil)) tNil)) ρ (fun ys => ys = rangeD 0 xs.length) := fun {ρ} h0 => by
    have z := it_range1 (K := K) (lk := lk) (ρ := ρ) (n := (xs.length : Int)) (ea_cons (len (ev_v h0)) ea_nil) (by omega) (by omega)
    rw [Int.toNat_natCast] at z
    exact z
  refine st_retq (eu_eqD 1 (ev_lcD (js := [2]) (rng rfl) (fun _ => false) (fun x => x) (by rw [rangeD_len]; omega) (by decide) fun i x hi => ?_) (ev_lst (ds := []) ea_nil) ?_ (plain_nilL 0)) fun x e => ?_
  · obtain ⟨hlt, rfl⟩ := get_range hi
    rw [Int.zero_add]
    refine ⟨_, tg_name, ?_, fun z => Bool.noConfusion z⟩
    have hxi : xs[i]? = some xs[i] := List.getElem?_eq_getElem hlt
    exact et_not (a := true) (et_B (ev_call xs[i] (ea_cons (ix (ev_v rfl) (ev_v rfl) hxi) (ea_cons (ix (ev_v rfl) (ev_v rfl) hxi) ea_nil)) (hx _ (List.getElem_mem hlt))))
  · rw [List.filter_eq_nil_iff.mpr fun _ _ z => Bool.noConfusion z]
    exact plain_nilL 0
  · show x = _
    rw [e, List.filter_eq_nil_iff.mpr fun _ _ z => Bool.noConfusion z]
    rfl
theorem st_law_like : ∀ (n : Nat) (lk : Bool) (d : D), Lk (n + 1) d → StS K lk (t_law_like K (sp_law_like K n)) (startS 3 [.d d, .d d]) (Fn fun x => x = .bl true)
  | n, lk, .non, _ => like_flat _ lk .non (fun _ z => D.noConfusion z) rfl rfl false rfl rfl rfl
  | n, lk, .bl b, _ => like_flat _ lk (.bl b) (fun _ z => D.noConfusion z) rfl rfl true rfl rfl (by simp [eqF])
  | n, lk, .int b, _ => like_flat _ lk (.int b) (fun _ z => D.noConfusion z) rfl rfl false rfl rfl (by simp [eqF])
  | n, lk, .str b, _ => like_flat _ lk (.str b) (fun _ z => D.noConfusion z) rfl rfl false rfl rfl (by simp [eqF])
  | n, lk, .lst xs, h => like_seq n lk (.lst xs) xs (fun _ z => D.noConfusion z) true false rfl rfl rfl h.1 h.2 (fun h => eu_lenL h) fun h1 h2 h3 => eu_ixL h1 h2 (atI_nat h3)
  | n, lk, .tup xs, h => like_seq n lk (.tup xs) xs (fun _ z => D.noConfusion z) false true rfl rfl rfl h.1 h.2 (fun h => eu_lenT h) fun h1 h2 h3 => eu_ixT h1 h2 (atI_nat h3)
  | n, lk, .tk xs, h => h.elim
  | n, lk, .tf xs, h => h.elim
  | n, lk, .li xs, h => h.elim
  | n, lk, .dk xs, h => h.elim
  | n, lk, .dt xs, h => h.elim
theorem st_law_like0 (spr : Sp) (lk : Bool) : ∀ (d : D), Lk 0 d → StS K lk (t_law_like K spr) (startS 3 [.d d, .d d]) (Fn fun x => x = .bl true)
  | .non, _ => like_flat _ lk .non (fun _ z => D.noConfusion z) rfl rfl false rfl rfl rfl
  | .bl b, _ => like_flat _ lk (.bl b) (fun _ z => D.noConfusion z) rfl rfl true rfl rfl (by simp [eqF])
  | .int b, _ => like_flat _ lk (.int b) (fun _ z => D.noConfusion z) rfl rfl false rfl rfl (by simp [eqF])
  | .str b, _ => like_flat _ lk (.str b) (fun _ z => D.noConfusion z) rfl rfl false rfl rfl (by simp [eqF])
  | .lst xs, h => h.elim
  | .tup xs, h => h.elim
  | .tk xs, h => h.elim
  | .tf xs, h => h.elim
  | .li xs, h => h.elim
  | .dk xs, h => h.elim
  | .dt xs, h => h.elim
theorem run_law_like (n : Nat) : ∀ vs H Q E, sp_law_like K (n + 1) vs H Q E → t_law_like K (sp_law_like K n) { nx := fun _ H' => Q .non H', rt := Q } (L2.start ["one", "two", "k"] vs) H := sp_run 3 rfl fun lk _ d h => st_law_like n lk d h
theorem run_law_like0 (spr : Sp) : ∀ vs H Q E, sp_law_like K 0 vs H Q E → t_law_like K spr { nx := fun _ H' => Q .non H', rt := Q } (L2.start ["one", "two", "k"] vs) H := sp_run 3 rfl fun lk _ d h => st_law_like0 spr lk d h
end
end RF

set_option Elab.async false
set_option linter.all false
set_option maxRecDepth 100000
set_option maxHeartbeats 4000000
set_option autoImplicit false
set_option exponentiation.threshold 6000
namespace RF
open PySem L2

/-! ### what is drawn: values known by a word only -/
section
variable {K : PySem.W.Frag} {lk : Bool} {ρ : List Sl} {ta tb te : TE} {P : D → Prop} {u : TS} {p : Po} {d : D}
def iD (k : Nat) : D := .int (k : Int)
def IntS (A : Int → Prop) : D → Prop := fun d => ∃ i, d = .int i ∧ A i
theorem eu_addP {A B C : Int → Prop} (ha : EvS K lk ta ρ (IntS A)) (hb : EvS K lk tb ρ (IntS B)) (h : ∀ i j, A i → B j → C (i + j)) : EvS K lk (tOp (rAddU K) ta tb) ρ (IntS C) := ev_op ha hb fun x y ⟨i, ei, ai⟩ ⟨j, ej, bj⟩ => by
  subst ei ej
  exact rvl fun w v u ok _ r1 r2 Q g => ⟨i, j, r1, r2, g.here (d := .int (i + j)) ok rfl ⟨_, rfl, h i j ai bj⟩⟩
theorem ev_intP {i : Int} {A : Int → Prop} (h : A i) : EvS K lk (tC (.int i)) ρ (IntS A) := ev_int.imp fun d e => ⟨i, e, h⟩
theorem ev_isP {i : Int} {A : Int → Prop} (h : EvD K lk te ρ (.int i)) (a : A i) : EvS K lk te ρ (IntS A) := h.imp fun d e => ⟨i, e, a⟩
theorem ev_gtP {A : Int → Prop} {B : Bool → Prop} {j : Int} (ha : EvS K lk ta ρ (IntS A)) (hb : EvD K lk tb ρ (.int j)) (h : ∀ i, A i → B (decide (j < i))) : EvS K lk (tOp rGtI ta tb) ρ (fun d => ∃ b, d = .bl b ∧ B b) := ev_op ha hb fun x y ⟨i, ei, ai⟩ ej => by
  subst ei ej
  exact fun w v u ok _ r1 r2 Q g => ⟨i, j, r1, r2, g.here (d := .bl (decide (j < i))) ok rfl ⟨_, rfl, h i ai⟩⟩
theorem eu_eqP {A : Int → Prop} {B : Bool → Prop} {j : Int} (ha : EvS K lk ta ρ (IntS A)) (hb : EvD K lk tb ρ (.int j)) (h : ∀ i, A i → B (decide (i = j))) : EvS K lk (tOp (rEqU K) ta tb) ρ (fun d => ∃ b, d = .bl b ∧ B b) := ev_op ha hb fun x y ⟨i, ei, ai⟩ ej => by
  subst ei ej
  exact rvl fun w v u ok _ r1 r2 Q g => by
    obtain ⟨s1, s2⟩ := scal_of (x := .int i) (y := .int j) rfl r1 r2
    exact ⟨s1, by rw [s2]; exact g.here (d := .bl (decide (i = j))) ok rfl ⟨_, rfl, h i ai⟩⟩
theorem eu_intBP {B : Bool → Prop} (h : EvS K lk ta ρ (fun d => ∃ b, d = .bl b ∧ B b)) : EvS K lk (tCB rInt1 (tCons ta tNil)) ρ (fun d => ∃ b, d = .int (if b then 1 else 0) ∧ B b) := fun w0 w σ s Q g => h w0 w σ s _ fun v w1 x l1 ok1 r1 ⟨b, e, hb⟩ => by
  subst e
  have ev : v = .bl b := r1
  subst ev
  exact .inr ⟨b, rfl, (g.up l1).here (d := .int (if b then 1 else 0)) ok1 rfl ⟨b, rfl, hb⟩⟩
theorem eu_ixLP {ds : List D} {A : Int → Prop} (ha : EvD K lk ta ρ (.lst ds)) (hb : EvS K lk tb ρ (IntS A)) (h : ∀ i, A i → ∃ d, atI ds i = some d ∧ P d) : EvS K lk (rIxU K ta tb) ρ P := ev_r (ev_l (ev_op ha hb fun x y ex ⟨i, ei, ai⟩ => by
  subst ex ei
  intro w v u ok _ r1 r2 Q q
  obtain ⟨a, xs, e, s, r⟩ := r1
  obtain ⟨d, hd, pd⟩ := h i ai
  obtain ⟨z, h1, h2⟩ := at_rp r hd
  exact ⟨a, xs, i, z, e, r2, sqL_keeps (.of_same ok.sub) s, h1, q.here ok h2 pd⟩))
theorem eu_ixTP {ds : List D} {A : Int → Prop} (ha : EvD K lk ta ρ (.tup ds)) (hb : EvS K lk tb ρ (IntS A)) (h : ∀ i, A i → ∃ d, atI ds i = some d ∧ P d) : EvS K lk (rIxU K ta tb) ρ P := ev_l (ev_op ha hb fun x y ex ⟨i, ei, ai⟩ => by
  subst ex ei
  intro w v u ok _ r1 r2 Q q
  obtain ⟨a, xs, e, s, r⟩ := r1
  obtain ⟨d, hd, pd⟩ := h i ai
  obtain ⟨z, h1, h2⟩ := at_rp r hd
  exact ⟨a, xs, i, z, e, r2, sqT_keeps (.of_same ok.sub) s, h1, q.here ok h2 pd⟩)
/-- t[:e], e drawn -/
theorem eu_toP {A : Int → Prop} {T : List D → Prop} (h : EvS K lk te ρ (fun d => ∃ xs, d = .tup xs ∧ T xs)) (hh : EvS K lk tb ρ (IntS A)) (hA : ∀ i, A i → 0 ≤ i) (hP : ∀ (xs : List D) (n : Nat), T xs → A (n : Int) → P (.tup (xs.take n))) : EvS K lk (tSl (slU K) te tNoPart (tPart tb)) ρ P := fun w0 w σ s Q g =>
  h w0 w σ s _ fun v w1 d l1 ok1 r1 ⟨xs, e, tx⟩ => (hh w0 w1 σ (s.mono l1 ok1) _ fun v2 w3 d2 l3 ok3 r3 ⟨i, e2, ai⟩ => by
    subst e e2
    obtain ⟨n, rfl⟩ : ∃ n : Nat, i = n := ⟨i.toNat, by have := hA i ai; omega⟩
    refine ⟨(n : Int), r3, ?_⟩
    obtain ⟨a, vs, e, sq, r⟩ := r1
    have r' := r.mono l3.I
    have sq' := sqT_keeps (.of_same l3.I) sq
    have hp := hP xs n tx ai
    rw [← cut_to] at hp
    refine .inl ⟨a, vs, e, sqTH ok3 sq', fun z => ?_, fun _ p hn => ?_⟩
    · rw [r.length] at z
      exact (g.up (l1.trans l3)).here (d := .tup (cutD xs none (some (n : Int)))) ok3 (by rw [cut_whole z]; exact ⟨a, vs, rfl, sq', r'⟩) hp
    · exact (g.up (l1.trans l3)).new (d := .tup (cutD xs none (some (n : Int)))) ok3 hn True.intro ⟨p, _, rfl, .inl (.inl upd_same), (r'.cut none (some (n : Int))).mono (same_new (notI ok3 hn))⟩ hp)
theorem is_tupP {T : List D → Prop} (h : EvS K lk te ρ (fun d => ∃ xs, d = .tup xs ∧ T xs)) : ItS K lk (iSeq K te) ρ T := itl fun w0 w σ s R k => h w0 w σ s _ fun v w1 d l1 ok1 r1 ⟨xs, e, tx⟩ => by
  subst e
  obtain ⟨a, vs, e, sq, r⟩ := r1
  refine ⟨a, e, ⟨vs, sqTH ok1 sq⟩, k _ w1 xs l1 ok1 tx ⟨fun i w' ok' sm hi => ?_, fun i w' v' H' ok' sm y x hx => ?_, fun w' ok' sm => ?_⟩⟩
  · have hi' : i < vs.length := by rw [r.length]; exact hi
    exact ⟨vs, vs[i], sqTH ok' (sqT_keeps (.of_same sm) sq), List.getElem?_eq_getElem hi'⟩
  · obtain ⟨e', y⟩ := y
    obtain ⟨u, hu, ru⟩ := r.get hx
    have z := y vs (sqTH ok' (sqT_keeps (.of_same sm) sq))
    rw [hu] at z
    cases z
    exact ⟨w', e'.symm, .refl w', ok', ru.mono sm⟩
  · exact ⟨vs, sqTH ok' (sqT_keeps (.of_same sm) sq), Nat.le_of_eq r.length⟩
theorem it_rangeP {A : Int → Prop} (h : EvS K lk te ρ (IntS A)) (hA : ∀ i, A i → 0 ≤ i ∧ i ≤ 100000) : ItS K lk (iRng1 (tCons te tNil)) ρ (fun ys => ∃ n : Nat, ys = rangeD 0 n ∧ A (n : Int)) := fun w0 w σ s R k => h w0 w σ s _ fun v w1 d l1 ok1 r1 ⟨i, e, ai⟩ => by
  subst e
  have ev : v = .int i := r1
  subst ev
  obtain ⟨h0, h1⟩ := hA i ai
  refine ⟨i, rfl, by omega, by omega, k _ w1 _ l1 ok1 ⟨i.toNat, rfl, ?_⟩ (yields_range 0 i.toNat)⟩
  rw [show ((i.toNat : Nat) : Int) = i by omega]
  exact ai
/-- a, b = x, y, drawn -/
theorem st_parP {i j : Nat} {A B : D → Prop} (ha : EvS K lk ta ρ A) (hb : EvS K lk tb ρ B) (k : ∀ a b, A a → B b → StS K lk u ((ρ.set i (.dat a)).set j (.dat b)) p) : StS K lk (tSeq (tPar i j (tCons ta (tCons tb tNil))) u) ρ p := fun w0 w σ E s f =>
  ha w0 w σ s _ fun v w1 a l1 ok1 r1 ca => hb w0 w1 σ (s.mono l1 ok1) _ fun v2 w2 b l2 ok2 r2 cb =>
    ⟨v, v2, rfl, k a b ca cb w0 w2 _ E ((((s.mono l1 ok1).mono l2 ok2).set i (r1.mono l2.I)).set j r2) f⟩
/-- _law_draw(tape, n) -/
theorem ev_draw {i : Nat} {n : Int} (ht : ρ[i]? = some .tape) (hn : EvD K lk te ρ (.int n)) (h0 : 0 < n) (h1 : n < 2 ^ 60) : EvS K lk (tCall (sp_law_draw K) [] E0 (tCons (tVar i) (tCons te tNil))) ρ (IntS fun r => 0 ≤ r ∧ r < n) :=
  ev_call' (fun h => Bool.noConfusion h) (ea_tape (C := fun as => as = [.d (.int n)]) (R := fun as => as = [.tp, .d (.int n)]) ht (ea_cons hn ea_nil) fun as e => by rw [e]) fun as e => ⟨n, e, ⟨h0, h1⟩, fun d ⟨r, er, hr⟩ => ⟨r, er, hr⟩⟩
theorem ev_drawP {i : Nat} {A : Int → Prop} (ht : ρ[i]? = some .tape) (hn : EvS K lk te ρ (IntS A)) (hA : ∀ n, A n → 0 < n ∧ n < 2 ^ 60) : EvS K lk (tCall (sp_law_draw K) [] E0 (tCons (tVar i) (tCons te tNil))) ρ (IntS fun r => 0 ≤ r ∧ ∃ n, A n ∧ r < n) :=
  ev_call' (fun h => Bool.noConfusion h) (ea_tape (C := fun as => ∃ n, as = [.d (.int n)] ∧ A n) (R := fun as => ∃ n, as = [.tp, .d (.int n)] ∧ A n) ht (ea_cons' hn ea_nil fun d as ⟨n, e, an⟩ e2 => ⟨n, by rw [e, e2], an⟩) fun as ⟨n, e, an⟩ => ⟨n, by rw [e], an⟩) fun as ⟨n, e, an⟩ => ⟨n, e, hA n an, fun d ⟨r, er, h0, h1⟩ => ⟨r, er, h0, n, an, h1⟩⟩
theorem it_rangeN {n : Nat} (h : EvD K lk te ρ (.int (n : Int))) (hn : n ≤ 100000) : ItS K lk (iRng1 (tCons te tNil)) ρ (fun ys => ys = rangeD 0 n) := by
  have z := it_range1 (ea_cons h ea_nil) (by omega) (by omega)
  rw [Int.toNat_natCast] at z
  exact z
/-! _law_any_order -/
def sp_law_any_order (K : PySem.W.Frag) : Sp := spP K false (fun n : Nat => [.tp, .d (.int (n : Int))]) (fun n => n ≤ 1000) (fun n d => ∃ ks : List Nat, d = .tup (ks.map iD) ∧ ks.Perm (List.range n))
/-- slots: 0 tape, 1 many, 2 found, 3 k -/
def t_law_any_order (K : PySem.W.Frag) : TS := (tSeq (tAsg (tLst tNil) (gName 2)) (tSeq (tFor (iRng1 (tCons (tVar 1) tNil)) (gName 3) (tDrop (tBM K "list" rInsert (tVar 2) (tCons (tCall (sp_law_draw K) [] E0 (tCons (tVar 0) (tCons (tOp (rAddU K) (tVar 3) (tC (.int 1))) tNil))) (tCons (tVar 3) tNil))))) (tRet (tCB (rTupU K) (tCons (tVar 2) tNil)))))
theorem st_law_any_order (lk : Bool) (n : Nat) (h : n ≤ 1000) : StS K lk (t_law_any_order K) (startS 4 [.tp, .d (.int (n : Int))]) (Fn fun d => ∃ ks : List Nat, d = .tup (ks.map iD) ∧ ks.Perm (List.range n)) := by
  refine st_own (ds := []) ea_nil ?_
  refine st_forq (js := [3]) (xs := rangeD 0 n) (it_rangeN (ev_v rfl) (by omega)) (fun i ρ => ∃ x3, ∃ ks : List Nat, ρ = [.tape, .dat (.int (n : Int)), .lst (ks.map iD), x3] ∧ ks.Perm (List.range i)) ⟨_, [], rfl, .nil⟩ (fun i x ρ1 hx iv => ?_) fun ρ' iv => ?_
  · obtain ⟨x3, ks, rfl, hp⟩ := iv
    obtain ⟨hi, rfl⟩ := get_range hx
    rw [Int.zero_add]
    have e60 : (2 : Int) ^ 60 = 1152921504606846976 := by decide
    have hlen : ks.length = i := by rw [hp.length_eq, List.length_range]
    refine ⟨_, tg_name, ?_⟩
    refine st_ins (A := fun r => 0 ≤ r ∧ r < (i : Int) + 1) (B := fun d => d = .int (i : Int)) rfl (ev_draw rfl (eu_add (ev_v rfl) ev_int) (by omega) (by omega)) (fun j hj => ⟨hj.1, by omega⟩) (ev_v rfl) (by rw [List.length_map]; omega) fun j d hj e => ?_
    subst e
    refine ⟨.dat (.int (i : Int)), ks.take j.toNat ++ [i] ++ ks.drop j.toNat, ?_, ?_⟩
    · show [Sl.tape, _, Sl.lst _, _] = _
      rw [List.map_append, List.map_append, List.map_take, List.map_drop]
      rfl
    · rw [List.range_succ, List.append_assoc]
      refine (List.perm_middle (a := i) (l₁ := ks.take j.toNat) (l₂ := ks.drop j.toNat)).trans ?_
      rw [List.take_append_drop]
      exact (List.perm_append_comm (l₁ := [i])).trans (hp.append_right [i])
  · obtain ⟨x3, ks, rfl, hp⟩ := iv
    rw [rangeD_len] at hp
    exact st_ret (eu_tupO rfl) fun d e => ⟨ks, e, hp⟩
theorem run_law_any_order : ∀ vs H Q E, sp_law_any_order K vs H Q E → t_law_any_order K { nx := fun _ H' => Q .non H', rt := Q } (L2.start ["tape", "many", "found", "k"] vs) H := sp_run 4 rfl fun lk _ n h => st_law_any_order lk n h
end
end RF

set_option Elab.async false
set_option linter.all false
set_option maxRecDepth 100000
set_option maxHeartbeats 4000000
set_option autoImplicit false
set_option exponentiation.threshold 6000
namespace RF
open PySem L2

/-! ### drawn rounds -/
structure Gs (G : List Str) : Prop where
  pos : 1 ≤ G.length
  len : G.length ≤ 12
  nd : G.Nodup
  ok : ∀ s ∈ G, PyData.strOk s = true
structure RowOf (G : List Str) (ac : Bool) (r : Row) : Prop where
  pos : 1 ≤ r.length
  len : r.length ≤ 5
  wt : ∀ g ∈ r, 1 ≤ g.2.1 ∧ g.2.1 ≤ 9
  cn : ∀ g ∈ r, g.2.2 = 0 ∨ g.2.2 = 1
  inG : ∀ g ∈ r, g.1 ∈ G
  rise : (r.map (·.1)).Pairwise ltS
  can : ∃ g ∈ r, g.2.2 = 1
  all : ac = true → ∀ g ∈ r, g.2.2 = 1
theorem rise_nodup {xs : List Str} (h : xs.Pairwise ltS) : xs.Nodup := h.imp fun {a b} hab e => by subst e; exact ltS_irrefl _ hab
theorem RowOf.wf {G : List Str} {ac : Bool} {r : Row} (hG : Gs G) (h : RowOf G ac r) : WfRow r where
  len := by have := h.len; omega
  ne := fun z => by have := h.pos; rw [z] at this; cases this
  wt := fun g hg => by
    have := h.wt g hg
    have : (2 : Int) ^ 40 = 1099511627776 := by decide
    omega
  nd := rise_nodup h.rise
  ok := fun g hg => hG.ok _ (h.inG g hg)
  can := h.can
theorem nodup_sub_len : ∀ {xs ys : List Str}, xs.Nodup → (∀ x ∈ xs, x ∈ ys) → xs.length ≤ ys.length
  | [], ys, _, _ => Nat.zero_le _
  | x :: xs, ys, h, hs => by
    rw [List.nodup_cons] at h
    have hx := hs x (by simp)
    have z := nodup_sub_len (ys := ys.erase x) h.2 fun y hy => by
      have ne : y ≠ x := fun e => h.1 (by rw [← e]; exact hy)
      exact (List.mem_erase_of_ne ne).mpr (hs y (List.mem_cons_of_mem _ hy))
    rw [List.length_erase_of_mem hx] at z
    have : 0 < ys.length := List.length_pos_of_mem hx
    rw [List.length_cons]
    omega
theorem wf_of_rows {G : List Str} {ac : Bool} {R : Rounds} (hG : Gs G) (hl : R.length ≤ 20) (h : ∀ r ∈ R, RowOf G ac r) : Wf R where
  len := hl
  rows := fun r hr => (h r hr).wf hG
  few := by
    have z := nodup_sub_len (dd_nodup (allN R)) (ys := G) fun s hs => by
      rw [dd_mem] at hs
      unfold allN at hs
      obtain ⟨r, hr, hs⟩ := List.mem_flatMap.mp hs
      obtain ⟨g, hg, rfl⟩ := List.mem_map.mp hs
      exact (h r hr).inG g hg
    have := hG.len
    omega
def nm (G : List Str) (k : Nat) : Str := G.getD k ""
theorem nm_get {G : List Str} {k : Nat} (h : k < G.length) : G[k]? = some (nm G k) := by
  unfold nm
  rw [List.getD_eq_getElem?_getD, List.getElem?_eq_getElem h]
  rfl
theorem nm_mem {G : List Str} {k : Nat} (h : k < G.length) : nm G k ∈ G := List.mem_of_getElem? (nm_get h)
theorem nodup_get : ∀ {G : List Str}, G.Nodup → ∀ {i j : Nat} {s : Str}, G[i]? = some s → G[j]? = some s → i = j
  | [], _, i, j, s, h, _ => by cases h
  | x :: xs, hn, 0, 0, s, _, _ => rfl
  | x :: xs, hn, 0, j + 1, s, h1, h2 => by
    rw [List.nodup_cons] at hn
    cases h1
    exact absurd (List.mem_of_getElem? (show xs[j]? = some x from h2)) hn.1
  | x :: xs, hn, i + 1, 0, s, h1, h2 => by
    rw [List.nodup_cons] at hn
    cases h2
    exact absurd (List.mem_of_getElem? (show xs[i]? = some x from h1)) hn.1
  | x :: xs, hn, i + 1, j + 1, s, h1, h2 => by
    rw [List.nodup_cons] at hn
    rw [nodup_get hn.2 (show xs[i]? = some s from h1) (show xs[j]? = some s from h2)]
theorem nm_nodup {G : List Str} (hG : G.Nodup) : ∀ {ks : List Nat}, ks.Nodup → (∀ k ∈ ks, k < G.length) → (ks.map (nm G)).Nodup
  | [], _, _ => .nil
  | k :: ks, h, hk => by
    rw [List.nodup_cons] at h
    rw [List.map_cons, List.nodup_cons]
    refine ⟨fun z => ?_, nm_nodup hG h.2 fun j hj => hk j (List.mem_cons_of_mem _ hj)⟩
    obtain ⟨j, hj, e⟩ := List.mem_map.mp z
    have h1 := nm_get (hk k (by simp))
    have h2 := nm_get (hk j (List.mem_cons_of_mem _ hj))
    rw [e] at h2
    exact h.1 (nodup_get hG h1 h2 ▸ hj)
theorem sorted_rise {xs : List Str} (h : xs.Nodup) : (sortS xs).Pairwise ltS := by
  have h1 := sortS_sorted xs
  have h2 : (sortS xs).Nodup := (sortS_perm xs).nodup_iff.mpr h
  refine (h1.and h2).imp fun {a b} hab => ?_
  rcases ltS_total a b with z | z | z
  · exact z
  · exact absurd z hab.2
  · exact absurd z (leS_iff.mp hab.1)
section
variable {K : PySem.W.Frag} {lk : Bool} {ρ : List Sl} {ta tb te : TE} {P : D → Prop} {u : TS} {p : Po} {d : D}
theorem eu_sortedP {S : List Str → Prop} (h : EvS K lk ta ρ (fun d => ∃ ks : List Str, d = .lst (ks.map D.str) ∧ S ks)) (hl : ∀ ks, S ks → ks.length < 64) : EvS K lk (tCB (rSortedU K) (tCons ta tNil)) ρ (fun d => ∃ ks : List Str, d = .lst ((sortS ks).map D.str) ∧ S ks) :=
  ev_cb (C := fun as => ∃ ks : List Str, as = [.d (.lst (ks.map D.str))] ∧ S ks) (ea_cons' h ea_nil fun d as ⟨ks, e, s⟩ e2 => ⟨ks, by rw [e, e2], s⟩) fun as ⟨ks, e, s⟩ => by
    subst e
    exact rcl fun w vs ok _ r Q gq => by
      obtain ⟨v, e, r⟩ := ars_one r
      obtain ⟨a, us, e2, sq, r2⟩ := r
      rw [r2.strs] at sq
      refine ⟨a, ks, by rw [e, e2], sqLH ok sq, hl ks s, fun ys p hp hs hn => ?_⟩
      rw [sortS_unique hp hs]
      exact gq.new (d := .lst ((sortS ks).map D.str)) ok hn True.intro ⟨p, _, rfl, .inl (.inl upd_same), RpL.of_strs _⟩ ⟨ks, rfl, s⟩
/-! _law_round -/
abbrev RoundA : Type := List Str × Bool
def encRound (x : RoundA) : List Ar := [.tp, .d (.lst (x.1.map D.str)), .d (.bl x.2)]
def sp_law_round (K : PySem.W.Frag) : Sp := spP K false encRound (fun x => Gs x.1) (fun x d => ∃ r, d = rowD r ∧ RowOf x.1 x.2 r)
/-- slots: 0 tape, 1 guests, 2 all_can, 3 many, 4 some, 5 at, 6 sole, 7 top, 8 found, 9 name, 10 can -/
def t_law_round (K : PySem.W.Frag) : TS := (tSeq (tAsg (tOp (rAddU K) (tC (.int 1)) (tCall (sp_law_draw K) [] E0 (tCons (tVar 0) (tCons (tCB rMin2 (tCons (tC (.int 5)) (tCons (tCB (rLenU K) (tCons (tVar 1) tNil)) tNil))) tNil)))) (gName 3)) (tSeq (tAsg (tCB (rSortedU K) (tCons (tLc (iSeq K (tSl (slU K) (tCall (sp_law_any_order K) [] E0 (tCons (tVar 0) (tCons (tCB (rLenU K) (tCons (tVar 1) tNil)) tNil))) tNoPart (tPart (tVar 3)))) (gName 5) tYes (rIxU K (tVar 1) (tVar 5)) [5]) tNil)) (gName 4)) (tSeq (tPar 6 7 (tCons (tCall (sp_law_draw K) [] E0 (tCons (tVar 0) (tCons (tVar 3) tNil))) (tCons (rIxU K (tLst (tCons (tC (.int 1)) (tCons (tC (.int 3)) (tCons (tC (.int 9)) tNil)))) (tCall (sp_law_draw K) [] E0 (tCons (tVar 0) (tCons (tC (.int 3)) tNil)))) tNil))) (tSeq (tAsg (tLst tNil) (gName 8)) (tSeq (tFor (iEnumU K (tCons (tVar 4) tNil)) (gTup K 2 (gCons (gName 5) (gCons (gName 9) gNil))) (tSeq (tAsg (tIf (tOr (tB (tVar 2)) (tTest (tOp (rEqU K) (tVar 5) (tVar 6)))) (tC (.int 1)) (tCB rInt1 (tCons (tOp rGtI (tCall (sp_law_draw K) [] E0 (tCons (tVar 0) (tCons (tC (.int 4)) tNil))) (tC (.int 0))) tNil))) (gName 10)) (tDrop (tBM K "list" rAppend (tVar 8) (tCons (tTupU (tCons (tVar 9) (tCons (tOp (rAddU K) (tC (.int 1)) (tCall (sp_law_draw K) [] E0 (tCons (tVar 0) (tCons (tVar 7) tNil)))) (tCons (tVar 10) tNil)))) tNil))))) (tRet (tCB (rTupU K) (tCons (tVar 8) tNil))))))))
/-- what the row is while it is made: of the names ns, the first i -/
structure Mk (G ns : List Str) (ac : Bool) (sole : Int) (i : Nat) (gs : Row) : Prop where
  nms : gs.map (·.1) = ns.take i
  wt : ∀ g ∈ gs, 1 ≤ g.2.1 ∧ g.2.1 ≤ 9
  cn : ∀ g ∈ gs, g.2.2 = 0 ∨ g.2.2 = 1
  can : sole < (i : Int) → ∃ g ∈ gs, g.2.2 = 1
  all : ac = true → ∀ g ∈ gs, g.2.2 = 1
theorem Mk.snoc {G ns : List Str} {ac : Bool} {sole : Int} {i : Nat} {gs : Row} {s : Str} {w c : Int} (m : Mk G ns ac sole i gs) (hs : ns[i]? = some s) (hw : 1 ≤ w ∧ w ≤ 9) (hc : c = 0 ∨ c = 1) (h1 : (ac = true ∨ (i : Int) = sole) → c = 1) : Mk G ns ac sole (i + 1) (gs ++ [(s, w, c)]) where
  nms := by rw [List.map_append, m.nms, take_succ_of hs]; rfl
  wt := fun g hg => (List.mem_append.mp hg).elim (m.wt g) fun z => by rw [List.mem_singleton.mp z]; exact hw
  cn := fun g hg => (List.mem_append.mp hg).elim (m.cn g) fun z => by rw [List.mem_singleton.mp z]; exact hc
  can := fun h => by
    by_cases z : sole < (i : Int)
    · obtain ⟨g, hg, e⟩ := m.can z
      exact ⟨g, List.mem_append_left _ hg, e⟩
    · exact ⟨(s, w, c), by simp, h1 (.inr (by omega))⟩
  all := fun h g hg => (List.mem_append.mp hg).elim (m.all h g) fun z => by rw [List.mem_singleton.mp z]; exact h1 (.inl h)
theorem st_law_round (lk : Bool) (x : RoundA) (hG : Gs x.1) : StS K lk (t_law_round K) (startS 11 (encRound x)) (Fn fun d => ∃ r, d = rowD r ∧ RowOf x.1 x.2 r) := by
  obtain ⟨G, ac⟩ := x
  dsimp only at hG ⊢
  have g1 := hG.pos
  have g8 := hG.len
  have e60 : (2 : Int) ^ 60 = 1152921504606846976 := by decide
  have lenG : ∀ {ρ : List Sl}, ρ[1]? = some (.dat (.lst (G.map D.str))) → EvD K lk (tCB (rLenU K) (tCons (tVar 1) tNil)) ρ (.int (G.length : Int)) := fun {ρ} h => ev_is (eu_lenL (ev_v h)) (by rw [List.length_map])
  refine st_let (eu_addP (A := fun i => i = 1) (B := fun r => 0 ≤ r ∧ r < (if (G.length : Int) < 5 then (G.length : Int) else 5)) (C := fun m => 1 ≤ m ∧ m ≤ 5 ∧ m ≤ (G.length : Int)) (ev_intP rfl) (ev_draw rfl (eu_min2 ev_int (lenG rfl)) (by split <;> omega) (by split <;> omega)) fun i j hi hj => by subst hi; obtain ⟨h1, h2⟩ := hj; split at h2 <;> omega) fun d hd => ?_
  obtain ⟨m, rfl, m1, m5, mG⟩ := hd
  refine st_let (eu_sortedP (S := fun ns => ns.Nodup ∧ (∀ s ∈ ns, s ∈ G) ∧ (ns.length : Int) = m) ?_ fun ks h => by have := h.2.2; omega) fun d hd => ?_
  · refine ev_lc (js := [5]) (X := fun xs => ∃ ks : List Nat, xs = ks.map iD ∧ ks.Nodup ∧ (∀ k ∈ ks, k < G.length) ∧ (ks.length : Int) = m) (is_tupP (eu_toP (A := fun i => i = m) (T := fun xs => ∃ ks : List Nat, xs = ks.map iD ∧ ks.Perm (List.range G.length)) ?_ (ev_isP (ev_v rfl) rfl) (fun i e => by omega) fun xs n hx hn => ?_)) (fun xs i ys => ∃ ks : List Nat, xs = ks.map iD ∧ ys = ((ks.take i).map (nm G)).map D.str) (fun xs ⟨ks, e, _⟩ => ⟨ks, e, rfl⟩) (fun xs ⟨ks, e, _, _, h⟩ => by rw [e, List.length_map]; omega) (by decide) (fun xs i x ys hX hx ha => ?_) fun xs ys hX ha => ?_
    · refine ev_call' (fun h => Bool.noConfusion h) (ea_tape (C := fun as => as = [.d (.int (G.length : Int))]) (R := fun as => as = [.tp, .d (.int (G.length : Int))]) rfl (ea_cons (lenG rfl) ea_nil) fun as e => by rw [e]) fun as e => ⟨G.length, e, by omega, fun d ⟨ks, ed, hp⟩ => ⟨ks.map iD, ed, ks, rfl, hp⟩⟩
    · obtain ⟨ks, rfl, hp⟩ := hx
      refine ⟨_, rfl, ks.take n, by rw [List.map_take], ?_, fun k hk => ?_, ?_⟩
      · exact (List.take_sublist n ks).nodup (hp.nodup_iff.mpr List.nodup_range)
      · exact List.mem_range.mp (hp.mem_iff.mp (List.mem_of_mem_take hk))
      · rw [List.length_take, hp.length_eq, List.length_range]
        omega
    · obtain ⟨ks, rfl, h1, h2, h3⟩ := hX
      obtain ⟨ks', e', rfl⟩ := ha
      rw [List.getElem?_map] at hx
      cases hk : ks[i]? with
      | none => rw [hk] at hx; cases hx
      | some k =>
        rw [hk] at hx
        have hx : iD k = x := Option.some.inj hx
        subst hx
        have kl := h2 k (List.mem_of_getElem? hk)
        have e' : ks = ks' := by
          have := congrArg (List.map fun d => match d with | D.int i => i.toNat | _ => 0) e'
          rw [List.map_map, List.map_map] at this
          have idk : ∀ l : List Nat, l.map ((fun d => match d with | D.int i => i.toNat | _ => 0) ∘ iD) = l := fun l => by
            conv => rhs; rw [← List.map_id l]
            rfl
          rw [idk, idk] at this
          exact this
        subst e'
        refine ⟨_, _, tg_name, et_yes, (fun z => Bool.noConfusion z), fun _ => (eu_ixL (d := .str (nm G k)) (ev_v rfl) (ev_v rfl) (atI_nat (by rw [List.getElem?_map, nm_get kl]; rfl))).imp fun d ed => ⟨ks, rfl, ?_⟩⟩
        rw [ed, take_succ_of hk, List.map_append, List.map_append]
        rfl
    · obtain ⟨ks, rfl, h1, h2, h3⟩ := hX
      obtain ⟨ks', e', rfl⟩ := ha
      have e' : ks = ks' := by
        have := congrArg (List.map fun d => match d with | D.int i => i.toNat | _ => 0) e'
        rw [List.map_map, List.map_map] at this
        have idk : ∀ l : List Nat, l.map ((fun d => match d with | D.int i => i.toNat | _ => 0) ∘ iD) = l := fun l => by
          conv => rhs; rw [← List.map_id l]
          rfl
        rw [idk, idk] at this
        exact this
      subst e'
      refine ⟨ks.map (nm G), by rw [List.length_map, List.take_length], nm_nodup hG.nd h1 h2, fun s hs => ?_, by rw [List.length_map]; exact h3⟩
      obtain ⟨k, hk, rfl⟩ := List.mem_map.mp hs
      exact nm_mem (h2 k hk)
  obtain ⟨ns, rfl, hn, hs, hm⟩ := hd
  have rise := sorted_rise hn
  have sl : (sortS ns).length = ns.length := (sortS_perm ns).length_eq
  have sG : ∀ s ∈ sortS ns, s ∈ G := fun s h => hs s ((sortS_perm ns).mem_iff.mp h)
  refine st_parP (A := IntS fun r => 0 ≤ r ∧ r < m) (B := IntS fun t => t = 1 ∨ t = 3 ∨ t = 9) (ev_draw rfl (ev_v rfl) (by omega) (by omega)) (eu_ixLP (ds := [.int 1, .int 3, .int 9]) (A := fun r => 0 ≤ r ∧ r < 3) (ev_lst (ds := [.int 1, .int 3, .int 9]) (ea_cons ev_int (ea_cons ev_int (ea_cons ev_int ea_nil)))) (ev_draw rfl ev_int (by decide) (by decide)) fun i hi => ?_) fun d1 d2 ⟨sole, e1, hsole⟩ ⟨top, e2, htop⟩ => ?_
  · have : i = 0 ∨ i = 1 ∨ i = 2 := by omega
    rcases this with rfl | rfl | rfl
    · exact ⟨_, rfl, 1, rfl, .inl rfl⟩
    · exact ⟨_, rfl, 3, rfl, .inr (.inl rfl)⟩
    · exact ⟨_, rfl, 9, rfl, .inr (.inr rfl)⟩
  subst e1 e2
  refine st_own (ds := []) ea_nil ?_
  refine st_forq (js := [5, 9]) (it_enumL (ev_v rfl)) (fun i ρ => ∃ x5 x9 x10, ∃ gs : Row, ρ = [.tape, .dat (.lst (G.map D.str)), .dat (.bl ac), .dat (.int m), .dat (.lst ((sortS ns).map D.str)), x5, .dat (.int sole), .dat (.int top), .lst (gs.map gD), x9, x10] ∧ Mk G (sortS ns) ac sole i gs) ⟨_, _, _, [], rfl, rfl, (fun g hg => by cases hg), (fun g hg => by cases hg), (fun h => by omega), fun _ g hg => by cases hg⟩ (fun i x ρ1 hx iv => ?_) fun ρ' iv => ?_
  · obtain ⟨x5, x9, x10, gs, rfl, mk⟩ := iv
    obtain ⟨x0, hx0, rfl⟩ := enumD_inv hx
    rw [List.getElem?_map] at hx0
    cases hs : (sortS ns)[i]? with
    | none => rw [hs] at hx0; cases hx0
    | some s =>
      rw [hs] at hx0
      have hx0 : D.str s = x0 := Option.some.inj hx0
      subst hx0
      have il : i < (sortS ns).length := (List.getElem?_eq_some_iff.mp hs).1
      have gl : gs.length ≤ 1000 := by
        have := congrArg List.length mk.nms
        rw [List.length_map, List.length_take] at this
        omega
      refine ⟨_, tg_tup2, ?_⟩
      refine st_let (P := IntS fun c => (c = 0 ∨ c = 1) ∧ ((ac = true ∨ (i : Int) = sole) → c = 1)) (ev_if (b := ac || decide ((i : Int) = sole)) (et_or (et_B (ev_v rfl)) fun _ => et_test (eu_eqI (ev_v rfl) (ev_v rfl))) (fun h => ev_intP ⟨.inr rfl, fun _ => rfl⟩) fun h => ?_) fun d ⟨c, e, hc0, hc1⟩ => ?_
      · rw [Bool.or_eq_false_iff] at h
        refine (eu_intBP (B := fun _ => True) (ev_gtP (A := fun r => 0 ≤ r ∧ r < 4) (ev_draw rfl ev_int (by decide) (by decide)) ev_int fun i _ => True.intro)).imp fun d ⟨b, e, _⟩ => ⟨_, e, ?_, fun z => ?_⟩
        · cases b
          · exact .inl rfl
          · exact .inr rfl
        · rcases z with z | z
          · rw [z] at h; exact absurd h.1 (by decide)
          · exact absurd z (of_decide_eq_false h.2)
      · subst e
        refine st_app' (P := fun d => ∃ w, d = gD (s, w, c) ∧ 1 ≤ w ∧ w ≤ 9) rfl (eu_tup' (ea_cons' (A := fun d => d = .str s) (ev_v rfl) (ea_cons' (A := IntS fun w => 1 ≤ w ∧ w ≤ 9) (C := fun as => as = [.d (.int c)]) (R := fun as => ∃ w, as = [.d (.int w), .d (.int c)] ∧ 1 ≤ w ∧ w ≤ 9) (eu_addP (A := fun i => i = 1) (B := fun r => 0 ≤ r ∧ r < top) (ev_intP rfl) (ev_draw rfl (ev_v rfl) (by omega) (by omega)) fun i j hi hj => by omega) (ea_cons (ev_v rfl) ea_nil) fun d as ⟨w, e, hw⟩ e2 => ⟨w, by rw [e, e2], hw⟩) (R := fun as => ∃ w, as = dats [.str s, .int w, .int c] ∧ 1 ≤ w ∧ w ≤ 9) fun d as e ⟨w, e2, hw⟩ => ⟨w, by rw [e, e2]; rfl, hw⟩) fun as ⟨w, e, hw⟩ => ⟨_, e, by show 3 ≤ 1000; decide, w, rfl, hw⟩) (by rw [List.length_map]; omega) fun d ⟨w, e, hw⟩ => ?_
        subst e
        refine ⟨.dat (.int (i : Nat)), .dat (.str s), .dat (.int c), gs ++ [(s, w, c)], ?_, mk.snoc hs hw hc0 hc1⟩
        rw [List.map_append]
        rfl
  · obtain ⟨x5, x9, x10, gs, rfl, mk⟩ := iv
    rw [enumD_len, List.length_map] at mk
    refine st_ret (eu_tupO rfl) fun d e => ⟨gs, e, ?_⟩
    have en := mk.nms
    rw [List.take_length] at en
    have gl : gs.length = (sortS ns).length := by rw [← en, List.length_map]
    refine ⟨by omega, by omega, mk.wt, mk.cn, fun g hg => sG _ ?_, by rw [en]; exact rise, mk.can (by omega), mk.all⟩
    rw [← en]
    exact List.mem_map.mpr ⟨g, hg, rfl⟩
theorem run_law_round : ∀ vs H Q E, sp_law_round K vs H Q E → t_law_round K { nx := fun _ H' => Q .non H', rt := Q } (L2.start ["tape", "guests", "all_can", "many", "some", "at", "sole", "top", "found", "name", "can"] vs) H := sp_run 11 rfl fun lk _ x h => st_law_round lk x h
end
end RF

set_option Elab.async false
set_option linter.all false
set_option maxRecDepth 100000
set_option maxHeartbeats 4000000
set_option autoImplicit false
set_option exponentiation.threshold 6000
namespace RF
open PySem L2

section
variable {K : PySem.W.Frag} {lk : Bool} {ρ : List Sl} {ta tb te : TE} {P : D → Prop} {u : TS} {p : Po} {d : D}
/-! _law_rounds -/
abbrev RoundsA : Type := Nat × List Str × Bool
def encRounds (x : RoundsA) : List Ar := [.tp, .d (.int (x.1 : Int)), .d (.lst (x.2.1.map D.str)), .d (.bl x.2.2)]
/-- rounds as they are drawn -/
structure RsOf (G : List Str) (ac : Bool) (most : Nat) (R : Rounds) : Prop where
  pos : 1 ≤ R.length
  len : R.length ≤ most
  rows : ∀ r ∈ R, RowOf G ac r
def sp_law_rounds (K : PySem.W.Frag) : Sp := spP K false encRounds (fun x => 1 ≤ x.1 ∧ x.1 ≤ 20 ∧ Gs x.2.1) (fun x d => ∃ R, d = rsD R ∧ RsOf x.2.1 x.2.2 x.1 R)
/-- slots: 0 tape, 1 most, 2 guests, 3 all_can, 4 k -/
def t_law_rounds (K : PySem.W.Frag) : TS := (tRet (tCB (rTupU K) (tCons (tLc (iRng1 (tCons (tOp (rAddU K) (tC (.int 1)) (tCall (sp_law_draw K) [] E0 (tCons (tVar 0) (tCons (tVar 1) tNil)))) tNil)) (gName 4) tYes (tCall (sp_law_round K) [] E0 (tCons (tVar 0) (tCons (tVar 2) (tCons (tVar 3) tNil)))) [4]) tNil)))
theorem eu_tupP {T : List D → Prop} (h : EvS K lk ta ρ (fun d => ∃ xs, d = .lst xs ∧ T xs)) : EvS K lk (tCB (rTupU K) (tCons ta tNil)) ρ (fun d => ∃ xs, d = .tup xs ∧ T xs) :=
  ev_cb (C := fun as => ∃ xs, as = [.d (.lst xs)] ∧ T xs) (ea_cons' h ea_nil fun d as ⟨xs, e, t⟩ e2 => ⟨xs, by rw [e, e2], t⟩) fun as ⟨xs, e, t⟩ => by
    subst e
    exact rcl fun w vs ok _ r Q g => by
      obtain ⟨v, e, r⟩ := ars_one r
      obtain ⟨a, us, e2, sq, r2⟩ := r
      exact ⟨a, us, by rw [e, e2], .inl ⟨sqLH ok sq, fun l hl => g.new (d := .tup xs) ok hl True.intro ⟨l, us, rfl, .inl (.inl upd_same), r2.mono (same_new (notI ok hl))⟩ ⟨xs, rfl, t⟩⟩⟩
theorem st_law_rounds (lk : Bool) (x : RoundsA) (h : 1 ≤ x.1 ∧ x.1 ≤ 20 ∧ Gs x.2.1) : StS K lk (t_law_rounds K) (startS 5 (encRounds x)) (Fn fun d => ∃ R, d = rsD R ∧ RsOf x.2.1 x.2.2 x.1 R) := by
  obtain ⟨most, G, ac⟩ := x
  obtain ⟨h1, h2, hG⟩ := h
  dsimp only at h1 h2 hG ⊢
  have e60 : (2 : Int) ^ 60 = 1152921504606846976 := by decide
  refine st_ret (eu_tupP (T := fun xs => ∃ R : Rounds, xs = R.map rowD ∧ RsOf G ac most R) ?_) fun d ⟨xs, e, R, ex, hR⟩ => ⟨R, by rw [e, ex]; rfl, hR⟩
  refine ev_lc (js := [4]) (X := fun xs => ∃ n : Nat, xs = rangeD 0 n ∧ 1 ≤ n ∧ n ≤ most) (fun w0 w σ s R k => it_rangeP (A := fun m => 1 ≤ m ∧ m ≤ (most : Int)) (eu_addP (A := fun i => i = 1) (B := fun r => 0 ≤ r ∧ r < (most : Int)) (ev_intP rfl) (ev_draw rfl (ev_v rfl) (by omega) (by omega)) fun i j hi hj => by omega) (fun i hi => by omega) w0 w σ s R fun J w' xs l ok ⟨n, e, hn⟩ Y => k J w' xs l ok ⟨n, e, by omega, by omega⟩ Y) (fun xs i ys => ∃ R : Rounds, ys = R.map rowD ∧ R.length = i ∧ ∀ r ∈ R, RowOf G ac r) (fun xs _ => ⟨[], rfl, rfl, fun r hr => by cases hr⟩) (fun xs ⟨n, e, _, hn⟩ => by rw [e, rangeD_len]; omega) (by decide) (fun xs i x ys hX hx ⟨R, ey, hl, hr⟩ => ?_) fun xs ys ⟨n, e, n1, n2⟩ ⟨R, ey, hl, hr⟩ => ?_
  · refine ⟨_, _, tg_name, et_yes, (fun z => Bool.noConfusion z), fun _ => ?_⟩
    refine ev_call' (fun h => Bool.noConfusion h) (ea_tape (C := fun as => as = [.d (.lst (G.map D.str)), .d (.bl ac)]) (R := fun as => as = encRound (G, ac)) rfl (ea_cons (ev_v rfl) (ea_cons (ev_v rfl) ea_nil)) fun as e => by rw [e]; rfl) fun as e => ⟨(G, ac), e, hG, fun d ⟨r, ed, hro⟩ => ⟨R ++ [r], ?_, ?_, ?_⟩⟩
    · rw [ey, ed, List.map_append]; rfl
    · rw [List.length_append, hl]; rfl
    · intro r' hr'
      rcases List.mem_append.mp hr' with z | z
      · exact hr r' z
      · rw [List.mem_singleton.mp z]; exact hro
  · rw [e, rangeD_len] at hl
    exact ⟨ys, rfl, R, ey, by omega, by omega, hr⟩
theorem run_law_rounds : ∀ vs H Q E, sp_law_rounds K vs H Q E → t_law_rounds K { nx := fun _ H' => Q .non H', rt := Q } (L2.start ["tape", "most", "guests", "all_can", "k"] vs) H := sp_run 5 rfl fun lk _ x h => st_law_rounds lk x h
/-! _law_payers -/
abbrev PayA : Type := Rounds × Nat
def encPay (x : PayA) : List Ar := [.tp, .d (rsD x.1), .d (.int (x.2 : Int))]
def sp_law_payers (K : PySem.W.Frag) : Sp := spP K false encPay (fun x => Wf x.1 ∧ x.2 ≤ 1000) (fun x d => ∃ ps, d = .tf ps ∧ Pays x.1 ps ∧ ps.length ≤ x.2)
/-- slots: 0 tape, 1 rounds, 2 most, 3 found, 4 row, 5 some -/
def t_law_payers (K : PySem.W.Frag) : TS := (tSeq (tAsg (tTupU tNil) (gName 3)) (tSeq (tFor (iSeq K (tSl (slU K) (tVar 1) tNoPart (tPart (tCall (sp_law_draw K) [] E0 (tCons (tVar 0) (tCons (tOp (rAddU K) (tVar 2) (tC (.int 1))) tNil)))))) (gName 4) (tSeq (tAsg (tCall (sp_law_can K) [] E0 (tCons (tVar 4) tNil)) (gName 5)) (tAsg (tOp (rAddU K) (tVar 3) (tTupU (tCons (rIxU K (tVar 5) (tCall (sp_law_draw K) [] E0 (tCons (tVar 0) (tCons (tCB (rLenU K) (tCons (tVar 5) tNil)) tNil)))) tNil))) (gName 3)))) (tRet (tVar 3))))
theorem st_law_payers (lk : Bool) (x : PayA) (h : Wf x.1 ∧ x.2 ≤ 1000) : StS K lk (t_law_payers K) (startS 6 (encPay x)) (Fn fun d => ∃ ps, d = .tf ps ∧ Pays x.1 ps ∧ ps.length ≤ x.2) := by
  obtain ⟨R, most⟩ := x
  obtain ⟨w, hm⟩ := h
  dsimp only at w hm ⊢
  have e60 : (2 : Int) ^ 60 = 1152921504606846976 := by decide
  have hl := w.len
  refine st_letD (eu_tupF [] ea_nil) ?_
  refine st_seq (fun ρ => ∃ x4 x5, ∃ ps : List Str, ρ = [.tape, .dat (rsD R), .dat (.int (most : Int)), .dat (.tf ps), x4, x5] ∧ Pays R ps ∧ ps.length ≤ most) ?_ fun ρ' iv => ?_
  · refine st_for (js := [4]) (X := fun xs => ∃ n : Nat, xs = (R.take n).map rowD ∧ n ≤ most) (is_tupP (eu_toP (A := fun r => 0 ≤ r ∧ r < (most : Int) + 1) (T := fun xs => xs = R.map rowD) ((ev_v (d := rsD R) rfl).imp fun d e => ⟨_, e, rfl⟩) (ev_draw rfl (eu_add (ev_v rfl) ev_int) (by omega) (by omega)) (fun i hi => hi.1) fun xs n ex hn => ⟨_, rfl, n, by rw [ex, List.map_take], by omega⟩)) (fun xs i ρ => ∃ x4 x5, ∃ ps : List Str, ρ = [.tape, .dat (rsD R), .dat (.int (most : Int)), .dat (.tf ps), x4, x5] ∧ Pays R ps ∧ ps.length = i) (fun xs _ => ⟨_, _, [], rfl, .nil R, rfl⟩) (fun xs i x ρ1 ⟨n, ex, hn⟩ hx ⟨x4, x5, ps, e, hp, hpl⟩ => ?_) fun xs ρ' ⟨n, ex, hn⟩ ⟨x4, x5, ps, e, hp, hpl⟩ => ?_
    · subst e
      rw [ex] at hx
      obtain ⟨r, hr, rfl⟩ := get_row hx
      have hi : i < n := by
        have := (List.getElem?_eq_some_iff.mp hr).1
        rw [List.length_take] at this
        omega
      rw [List.getElem?_take_of_lt hi] at hr
      have wr := w.rows r (List.mem_of_getElem? hr)
      have hil := (List.getElem?_eq_some_iff.mp hr).1
      have cl : 0 < (canQ r).length := List.length_pos_iff.mpr (can_ne wr)
      have c8 : (canQ r).length ≤ 8 := by
        unfold canQ
        rw [List.length_map]
        exact Nat.le_trans (List.length_filter_le _ _) wr.len
      refine ⟨_, tg_name, ?_⟩
      refine st_let (ev_call r (ea_cons (ev_v rfl) ea_nil) wr.len) fun d e => ?_
      have e : d = .lst ((canQ r).map D.str) := e
      subst e
      refine st_asg (P := fun d => ∃ s, d = .tf (ps ++ [s]) ∧ s ∈ canQ r) (ev_op (A := fun d => d = .tf ps) (B := fun d => ∃ s, d = .tf [s] ∧ s ∈ canQ r) (ev_v rfl) (eu_tupF' (ea_cons' (A := fun d => ∃ s, d = .str s ∧ s ∈ canQ r) (eu_ixLP (A := fun i => 0 ≤ i ∧ i < ((canQ r).length : Int)) (ev_v rfl) (ev_draw rfl (ev_is (eu_lenL (ev_v rfl)) (by rw [List.length_map])) (by omega) (by omega)) fun i hi => ?_) ea_nil (R := fun as => ∃ s, as = dats ([s].map D.str) ∧ s ∈ canQ r) fun d as ⟨s, e, hs⟩ e2 => ⟨s, by rw [e, e2]; rfl, hs⟩) fun as ⟨s, e, hs⟩ => ⟨[s], e, by show 1 ≤ 1000; decide, s, rfl, hs⟩) fun x y ex ⟨s, ey, hs⟩ => ?_) fun d ⟨s, e, hs⟩ => ?_
      · obtain ⟨k, rfl⟩ : ∃ k : Nat, i = k := ⟨i.toNat, by omega⟩
        have hk : k < (canQ r).length := by omega
        exact ⟨.str (canQ r)[k], atI_nat (by rw [List.getElem?_map, List.getElem?_eq_getElem hk]; rfl), _, rfl, List.getElem_mem hk⟩
      · subst ex ey
        exact rvr (rvr (rvl fun w v u ok _ r1 r2 Q g => by
          obtain ⟨a, o1, rfl, s1, d1⟩ := r1
          obtain ⟨b, o2, rfl, s2, d2⟩ := r2
          have pl := hp.1
          refine ⟨a, b, _, _, rfl, rfl, sqT_tf ok s1, sqT_tf ok s2, ?_, fun z => ?_, fun z => ?_, fun c o hc hd => ?_⟩
          · rw [List.length_map, List.length_map]
            exact Nat.le_trans (show ps.length + 1 ≤ 1001 by omega) (by decide)
          · have e : ps = [] := List.map_eq_nil_iff.mp z
            subst e
            exact g.here (d := .tf [s]) ok ⟨b, o2, rfl, s2, d2⟩ ⟨s, rfl, hs⟩
          · cases z
          · rw [← List.map_append]
            exact new_tf g ok hc hd ⟨s, rfl, hs⟩))
      · subst e
        refine ⟨.dat (rowD r), .dat (.lst ((canQ r).map D.str)), ps ++ [s], rfl, hp.snoc (by rw [hpl]; exact hr) hs, ?_⟩
        rw [List.length_append, hpl]
        rfl
    · rw [ex, List.length_map, List.length_take] at hpl
      exact ⟨x4, x5, ps, e, hp, by omega⟩
  · obtain ⟨x4, x5, ps, rfl, hp, hpl⟩ := iv
    exact st_ret (ev_v rfl) fun d e => ⟨ps, e, hp, hpl⟩
theorem run_law_payers : ∀ vs H Q E, sp_law_payers K vs H Q E → t_law_payers K { nx := fun _ H' => Q .non H', rt := Q } (L2.start ["tape", "rounds", "most", "found", "row", "some"] vs) H := sp_run 6 rfl fun lk _ x h => st_law_payers lk x h
/-- a def of which nothing is promised -/
theorem Df.calF {P : Program} {w : World} {K : PySem.W.Frag} {mg : Str → Option Value} {base : Heap} {x : Str} {st : Stmt} {N ps : List Str} (F : Df K mg x st) (S : FnScope N ps (defScope st))
    (hb : ∀ (kV doc pm : Value) (an : Option Addr) (cdv ct : Value) (us : List Value), us.length = ps.length → bindArgs (PySem.W.fnOf x x (defArgs st) (defBody st) (defScope st) .none kV doc pm an cdv ct) ⟨us, []⟩ = pure (ps.zip us)) :
    Cal P w K mg base 0 x ps (fun _ _ _ _ => False) := by
  obtain ⟨f, fd, G, m⟩ := F.ex
  exact ⟨f, fd, ⟨fun _ _ _ _ z => z.elim, fun _ _ _ _ _ _ _ _ _ _ _ _ _ z => z.elim⟩, m, G.kp, G.bindsN hb⟩
theorem fnOkD {P : Program} {w : World} {K : PySem.W.Frag} {mg : Str → Option Value} {base : Heap} {k : Nat} {x : Str} {st : Stmt} {N ps : List Str} {sp : Sp} {t : TS} {f0 : Addr} {fd : FuncData} (G : FunD K x x (defArgs st) (defBody st) (defScope st) [] [] f0 fd) (S : FnScope N ps (defScope st))
    (len : ∀ vs H Q E, sp vs H Q E → vs.length = ps.length) (run : ∀ vs H Q E, sp vs H Q E → t { nx := fun _ H' => Q .non H', rt := Q } (L2.start N vs) H)
    (der : ∀ (f : Addr) (cdv : Value) (A : Around) (outer : List Env) (s : Shared) (H : Hp) (E : XK), Room k (A.deeper (PyProof.Rows.envOfC x (defScope st) s.heap.objs.size f cdv)) → PSs (cxOf CX0 P w K mg base N x (defScope st) f cdv A outer s H E).nox (defBody st) t) : FnOk P w K mg base CX0 (k + 1) f0 fd ps sp :=
  G.ok S len fun cdv A outer s H vs Q E hr h => ⟨t, (der f0 cdv A outer s H E hr).nox, run vs H Q E h⟩
/-! ### where a law begins -/
def sp_law (K : PySem.W.Frag) : Sp := fun vs H Q _ => ∃ (a : Addr) (ns : List Int), vs = [.ref a] ∧ ns.length ≤ 63 ∧ Only H ∧ SqL K H a (ns.map V.int) ∧ ∀ H', Q (.bl true) H'
theorem only_nolock {H : Hp} (h : Only H) : NoLock H := fun a o => by
  refine ⟨fun es z => ?_, fun es z => ?_⟩
  · rcases h a with e | ⟨o', xs, e⟩ <;> rw [e] at z <;> cases z
  · rcases h a with e | ⟨o', xs, e⟩ <;> rw [e] at z <;> cases z
def t_start (K : PySem.W.Frag) : TS := tAsg (tLst (tCons (tCB (rListU K) (tCons (tVar 0) tNil)) (tCons (tC (.int 0)) (tCons (tC (.int 0)) tNil)))) (gName 1)
theorem law_run {rest : TS} {N : List Str} {n : Nat} (hN : N.length = n + 2) (h : StS K false rest (.un :: .tape :: List.replicate n .un) (Fn fun d => d = .bl true)) : ∀ vs H Q E, sp_law K vs H Q E → tSeq (t_start K) rest { nx := fun _ H' => Q .non H', rt := Q } (L2.start N vs) H := fun vs H Q E ⟨a, ns, ev, hl, hO, hS, hQ⟩ => by
  subst ev
  have e0 : L2.start N [.ref a] = some (.ref a) :: none :: List.replicate n none := by
    unfold L2.start
    rw [hN]
    rfl
  rw [e0]
  refine ⟨.ref a, rfl, a, _, rfl, .inl hS, fun l hl0 => ⟨by show 3 ≤ sizeLine; decide, fun t ht => ?_⟩⟩
  have ntl : t ≠ l := fun z => by rw [z, upd_same] at ht; cases ht
  have ht0 : H t = none := by rw [upd_ne ntl] at ht; exact ht
  let w : Wd := { I := upd H l (.lst (ns.map V.int)), H := upd (upd H l (.lst (ns.map V.int))) t (.lst [.ref l, .int 0, .int 0]), tp := some t, lk := false }
  have okw : w.Ok := by
    refine ⟨fun b o e => ?_, fun b e => ?_, fun _ => ?_⟩
    · show upd _ t _ b = some o
      rw [upd_ne (ne_of_none e ht)]
      exact e
    · have e : some t = some b := e
      cases e
      exact ⟨ht, l, 0, 0, ns, upd_same, .inl upd_same, Int.le_refl _, by omega⟩
    · have n1 : NoLock (upd H l (.lst (ns.map V.int))) := NoLock.upd (only_nolock hO) (o := .lst (ns.map V.int)) True.intro
      exact NoLock.upd n1 (o := .lst [.ref l, .int 0, .int 0]) True.intro
  refine h w w ((some (.ref a) :: none :: List.replicate n none).set 1 (some (.ref t))) _ ⟨rfl, .refl w, okw, ?_, fun i s e => ?_, fun i j s s' b e1 e2 o1 => ?_⟩ ⟨fun σ w' ρ' s' z => (D.noConfusion (show D.non = D.bl true from z)), fun v w' d l ok r e => ?_, fun _ _ _ _ z => z.elim, fun _ _ _ _ z => z.elim⟩
  · simp
  · match i, e with
    | 0, e => cases e; exact True.intro
    | 1, e => cases e; exact ⟨t, rfl, rfl⟩
    | m + 2, e =>
      have e : (List.replicate n Sl.un)[m]? = some s := e
      have : s = .un := List.eq_of_mem_replicate (List.mem_of_getElem? e)
      subst this
      exact True.intro
  · match i, e1 with
    | 0, e => cases e; cases o1
    | 1, e => cases e; cases o1
    | m + 2, e =>
      have e : (List.replicate n Sl.un)[m]? = some s := e
      have : s = .un := List.eq_of_mem_replicate (List.mem_of_getElem? e)
      subst this
      cases o1
  · have e : d = .bl true := e
    subst e
    rw [show v = .bl true from r]
    exact hQ _
end
end RF

set_option Elab.async false
set_option linter.all false
set_option maxRecDepth 100000
set_option maxHeartbeats 4000000
set_option autoImplicit false
set_option exponentiation.threshold 6000
namespace RF
open PySem L2
/-! ### sums -/
theorem sum_ite {ns : List Str} (hn : ns.Nodup) {g : Str} (hg : g ∈ ns) (w : Int) : (ns.map fun s => if g = s then w else 0).sum = w := by
  induction ns with
  | nil => cases hg
  | cons n ns ih =>
    rw [List.nodup_cons] at hn
    rw [List.map_cons, List.sum_cons]
    by_cases e : g = n
    · subst e
      rw [if_pos rfl]
      have z : (ns.map fun s => if g = s then w else 0).sum = 0 := by
        have : ∀ l : List Str, g ∉ l → (l.map fun s => if g = s then w else 0).sum = 0 := fun l => by
          induction l with
          | nil => intro _; rfl
          | cons a l ih =>
            intro h
            rw [List.map_cons, List.sum_cons, if_neg (fun e => h (by simp [e])), ih (fun z => h (List.mem_cons_of_mem _ z))]
            rfl
        exact this _ hn.1
      rw [z, Int.add_zero]
    · rw [if_neg e, ih hn.2 ((List.mem_cons.mp hg).resolve_left e), Int.zero_add]
theorem sum_addI {α : Type} (f g : α → Int) (xs : List α) : (xs.map fun x => f x + g x).sum = (xs.map f).sum + (xs.map g).sum := by
  induction xs with
  | nil => rfl
  | cons x xs ih => rw [List.map_cons, List.map_cons, List.map_cons, List.sum_cons, List.sum_cons, List.sum_cons, ih]; omega
theorem sum_mine {ns : List Str} (hn : ns.Nodup) : ∀ r : Row, (∀ g ∈ r, g.1 ∈ ns) → (ns.map (mineQ r)).sum = wtQ r
  | [], _ => by
    have : ∀ l : List Str, (l.map (mineQ [])).sum = 0 := fun l => by
      induction l with
      | nil => rfl
      | cons a l ih => rw [List.map_cons, List.sum_cons, ih]; rfl
    rw [this]
    rfl
  | g :: r, h => by
    have e2 : ∀ s, mineQ (g :: r) s = (if g.1 = s then g.2.1 else 0) + mineQ r s := fun s => by
      unfold mineQ
      rw [List.filter_cons]
      by_cases z : g.1 = s
      · rw [if_pos (decide_eq_true z), if_pos z, List.map_cons, List.sum_cons]
      · rw [if_neg (by rw [decide_eq_false z]; decide), if_neg z, Int.zero_add]
    have e : wtQ (g :: r) = g.2.1 + wtQ r := by unfold wtQ; rw [List.map_cons, List.sum_cons]
    rw [show mineQ (g :: r) = fun s => (if g.1 = s then g.2.1 else 0) + mineQ r s from funext e2, sum_addI, sum_ite hn (h g (by simp)), sum_mine hn r fun x hx => h x (List.mem_cons_of_mem _ hx), e]
theorem sum_count {ns : List Str} (hn : ns.Nodup) : ∀ ps : List Str, (∀ s ∈ ps, s ∈ ns) → (ns.map fun s => ((ps.count s : Nat) : Int)).sum = (ps.length : Int)
  | [], _ => by
    have : ∀ l : List Str, (l.map fun s => ((([] : List Str).count s : Nat) : Int)).sum = 0 := fun l => by
      induction l with
      | nil => rfl
      | cons a l ih => rw [List.map_cons, List.sum_cons, ih]; rfl
    rw [this]
    rfl
  | p :: ps, h => by
    have e2 : ∀ s, (((p :: ps).count s : Nat) : Int) = (if p = s then 1 else 0) + ((ps.count s : Nat) : Int) := fun s => by
      rw [List.count_cons]
      by_cases z : p = s
      · rw [if_pos (beq_iff_eq.mpr z), if_pos z]; omega
      · rw [if_neg (fun q => z (beq_iff_eq.mp q)), if_neg z]; omega
    rw [show (fun s => (((p :: ps).count s : Nat) : Int)) = fun s => (if p = s then 1 else 0) + ((ps.count s : Nat) : Int) from funext e2, sum_addI, sum_ite hn (h p (by simp)), sum_count hn ps fun x hx => h x (List.mem_cons_of_mem _ hx), List.length_cons]
    omega
/-- sums of fractions -/
def sumR (ns : List Str) (f : Str → Rat) : Rat := ns.foldl (fun q s => q + f s) 0
theorem foldl_addR (f : Str → Rat) : ∀ (ns : List Str) (q : Rat), ns.foldl (fun q s => q + f s) q = q + sumR ns f
  | [], q => by show q = q + 0; grind
  | n :: ns, q => by
    have e1 := foldl_addR f ns (q + f n)
    have e2 := foldl_addR f ns (0 + f n)
    rw [List.foldl_cons, e1]
    have e3 : sumR (n :: ns) f = ns.foldl (fun q s => q + f s) (0 + f n) := rfl
    rw [e3, e2]
    grind
theorem sumR_cons (n : Str) (ns : List Str) (f : Str → Rat) : sumR (n :: ns) f = f n + sumR ns f := by
  show ns.foldl (fun q s => q + f s) (0 + f n) = _
  rw [foldl_addR]
  grind
theorem sumR_add (ns : List Str) (f g : Str → Rat) : sumR ns (fun s => f s + g s) = sumR ns f + sumR ns g := by
  induction ns with
  | nil => show (0 : Rat) = 0 + 0; grind
  | cons n ns ih => rw [sumR_cons, sumR_cons, sumR_cons, ih]; grind
theorem sumR_sub (ns : List Str) (f g : Str → Rat) : sumR ns (fun s => f s - g s) = sumR ns f - sumR ns g := by
  induction ns with
  | nil => show (0 : Rat) = 0 - 0; grind
  | cons n ns ih => rw [sumR_cons, sumR_cons, sumR_cons, ih]; grind
theorem sumR_mul (ns : List Str) (f : Str → Rat) (c : Rat) : sumR ns (fun s => f s * c) = sumR ns f * c := by
  induction ns with
  | nil => show (0 : Rat) = 0 * c; grind
  | cons n ns ih => rw [sumR_cons, sumR_cons, ih]; grind
theorem sumR_zero (ns : List Str) : sumR ns (fun _ => 0) = 0 := by
  induction ns with
  | nil => rfl
  | cons n ns ih => rw [sumR_cons, ih]; grind
theorem sumR_int (ns : List Str) (f : Str → Int) : sumR ns (fun s => (f s : Rat)) = ((ns.map f).sum : Int) := by
  induction ns with
  | nil => rfl
  | cons n ns ih =>
    rw [sumR_cons, ih, List.map_cons, List.sum_cons]
    rw [Rat.intCast_add]
theorem part_eq {r : Row} (h : 0 < wtQ r) (s : Str) : partQ r s = (mineQ r s : Rat) * (1 / (wtQ r : Rat)) := by
  unfold partQ
  rw [Rat.mkRat_eq_div]
  have e : (((wtQ r).toNat : Nat) : Rat) = ((wtQ r : Int) : Rat) := by
    have : (((wtQ r).toNat : Nat) : Int) = wtQ r := by omega
    rw [← this]
    rfl
  rw [e]
  grind
theorem sum_part {ns : List Str} (hn : ns.Nodup) {r : Row} (h : WfRow r) (hs : ∀ g ∈ r, g.1 ∈ ns) : sumR ns (partQ r) = 1 := by
  have hp := (wt_pos h).1
  rw [show partQ r = fun s => (mineQ r s : Rat) * (1 / (wtQ r : Rat)) from funext (part_eq hp), sumR_mul, sumR_int, sum_mine hn r hs]
  have : ((wtQ r : Int) : Rat) ≠ 0 := by
    intro z
    have : wtQ r = 0 := by exact_mod_cast z
    omega
  grind
theorem mem_names {R : Rounds} {r : Row} {g : Guest} (hr : r ∈ R) (hg : g ∈ r) : g.1 ∈ namesQ R := by
  rw [names_mem]
  unfold allN
  exact List.mem_flatMap.mpr ⟨r, hr, List.mem_map.mpr ⟨g, hg, rfl⟩⟩
theorem sum_due {R : Rounds} (w : Wf R) : ∀ k : Nat, k ≤ R.length → sumR (namesQ R) (fun s => dueQ R s k) = (k : Rat)
  | 0, _ => sumR_zero _
  | k + 1, h => by
    have hr : R[k]? = some R[k] := List.getElem?_eq_getElem h
    have e : (fun s => dueQ R s (k + 1)) = fun s => dueQ R s k + partQ R[k] s := funext fun s => due_succ hr
    rw [e, sumR_add, sum_due w k (by omega), sum_part (names_nodup R) (w.rows _ (List.getElem_mem h)) fun g hg => mem_names (List.getElem_mem h) hg]
    grind
theorem sum_stand {R : Rounds} (w : Wf R) {ps : List Str} (h : Pays R ps) : sumR (namesQ R) (standQ R ps) = 0 := by
  have e : standQ R ps = fun s => dueQ R s ps.length - (((ps.count s : Nat) : Int) : Rat) := rfl
  rw [e, sumR_sub, sum_due w _ h.1, sumR_int, sum_count (names_nodup R) ps fun s hs => ?_]
  · show ((ps.length : Int) : Rat) - ((ps.length : Int) : Rat) = 0
    grind
  · obtain ⟨r, hr, g, hg, e⟩ := h.mem hs
    rw [← e]
    exact mem_names hr hg
/-! ### tighter sizes, of drawn rounds -/
theorem RowOf.wt45 {G : List Str} {ac : Bool} {r : Row} (h : RowOf G ac r) : wtQ r ≤ 45 := by
  have key : ∀ l : Row, (∀ g ∈ l, 1 ≤ g.2.1 ∧ g.2.1 ≤ 9) → wtQ l ≤ 9 * (l.length : Int) := fun l => by
    induction l with
    | nil => intro _; exact Int.le_refl _
    | cons g l ih =>
      intro hl
      have a := ih fun x hx => hl x (List.mem_cons_of_mem _ hx)
      have b := (hl g (by simp)).2
      have e : wtQ (g :: l) = g.2.1 + wtQ l := by unfold wtQ; rw [List.map_cons, List.sum_cons]
      rw [e, List.length_cons]
      omega
  have := key r h.wt
  have := h.len
  omega
theorem RowOf.part64 {G : List Str} {ac : Bool} {r : Row} (hG : Gs G) (h : RowOf G ac r) (s : Str) : Bq 64 (partQ r s) := by
  obtain ⟨a, b⟩ := wt_pos (h.wf hG)
  obtain ⟨c, d⟩ := mine_le r s (h.wf hG).wt
  have := h.wt45
  exact .mk (by omega) (by omega) (by omega)
theorem fold_bqT {G : List Str} {ac : Bool} (hG : Gs G) (s : Str) : ∀ (R : Rounds) (q : Rat) (k : Nat), (∀ r ∈ R, RowOf G ac r) → Bq (2 ^ (7 * k)) q → Bq (2 ^ (7 * (k + R.length))) (R.foldl (fun q r => q + partQ r s) q)
  | [], q, k, _, h => h
  | r :: R, q, k, hw, h => by
    have h1 : Bq (2 ^ (7 * (k + 1))) (q + partQ r s) := by
      have z := h.add ((hw r (by simp)).part64 hG s)
      have e : 2 * (2 ^ (7 * k) * 64) = 2 ^ (7 * (k + 1)) := by
        rw [Nat.mul_add, Nat.pow_add]
        omega
      rw [e] at z
      exact z
    have := fold_bqT hG s R _ (k + 1) (fun r hr => hw r (List.mem_cons_of_mem _ hr)) h1
    rw [List.length_cons, show k + (R.length + 1) = k + 1 + R.length by omega]
    exact this
theorem RsOf.due {G : List Str} {ac : Bool} {R : Rounds} (hG : Gs G) (h : RsOf G ac 12 R) (s : Str) (k : Nat) : Bq (2 ^ 84) (dueQ R s k) := by
  have z := fold_bqT hG s (R.take k) 0 0 (fun r hr => h.rows r (List.mem_of_mem_take hr)) (.zero (Nat.le_refl _))
  refine z.mono (Nat.pow_le_pow_right (by decide) ?_)
  have hl := h.len
  have : (R.take k).length ≤ R.length := by rw [List.length_take]; omega
  omega
theorem RsOf.stand {G : List Str} {ac : Bool} {R : Rounds} (hG : Gs G) (h : RsOf G ac 12 R) {ps : List Str} (hp : ps.length ≤ R.length) (s : Str) : Bq (2 ^ 90) (standQ R ps s) := by
  have hc : ps.count s ≤ 20 := by
    have h1 : ps.count s ≤ ps.length := List.count_le_length
    have := h.len
    omega
  have hb : Bq 20 ((ps.count s : Nat) : Rat) := ⟨by show ((((ps.count s : Nat) : Int) : Rat)).num.natAbs ≤ 20; rw [Rat.num_intCast]; omega, by show ((((ps.count s : Nat) : Int) : Rat)).den ≤ 20; rw [Rat.den_intCast]; omega⟩
  refine ((h.due hG s ps.length).sub hb).mono ?_
  have : (2 : Nat) ^ 90 = 2 ^ 84 * 64 := by rw [← Nat.pow_add (m := 84) (n := 6)]
  rw [this]
  generalize (2 : Nat) ^ 84 = x
  omega
theorem sum_bq (f : Str → Rat) (hf : ∀ s, Bq (2 ^ 90) (f s)) : ∀ (ns : List Str) (q : Rat) (k : Nat), Bq (2 ^ (91 * k)) q → Bq (2 ^ (91 * (k + ns.length))) (ns.foldl (fun q s => q + f s) q)
  | [], q, k, h => h
  | n :: ns, q, k, h => by
    have h1 : Bq (2 ^ (91 * (k + 1))) (q + f n) := by
      have z := h.add (hf n)
      have e : 2 * (2 ^ (91 * k) * 2 ^ 90) = 2 ^ (91 * (k + 1)) := by
        rw [Nat.mul_add, Nat.pow_add]
        have : (2 : Nat) ^ (91 * 1) = 2 * 2 ^ 90 := by decide
        rw [this, Nat.mul_left_comm]
      rw [e] at z
      exact z
    have := sum_bq f hf ns _ (k + 1) h1
    rw [List.length_cons, show k + (ns.length + 1) = k + 1 + ns.length by omega]
    exact this
end RF

set_option Elab.async false
set_option linter.all false
set_option maxRecDepth 100000
set_option maxHeartbeats 4000000
set_option autoImplicit false
set_option exponentiation.threshold 6000
namespace RF
open PySem L2
def G6 : List Str := ["ann", "bob", "cy", "dee", "eve", "fay"]
theorem gs6 : Gs G6 := ⟨by decide, by decide, by decide +kernel, by decide +kernel⟩
section
variable {K : PySem.W.Frag} {lk : Bool} {ρ : List Sl} {ta tb te : TE} {P : D → Prop} {u : TS} {p : Po} {d : D}
theorem lk_frac (n : Nat) (q : Rat) : Lk (n + 1) (fD q) := ⟨by show 2 ≤ 1000; decide, fun x hx => by
  have : x = .int q.num ∨ x = .int (q.den : Int) := by simpa using hx
  rcases this with rfl | rfl <;> cases n <;> exact True.intro⟩
theorem lk_dues {R : Rounds} (w : Wf R) : Lk 7 (.lst (duesD R)) := by
  refine ⟨by unfold duesD; rw [List.length_map]; have := names_len w; omega, fun x hx => ?_⟩
  obtain ⟨s, _, rfl⟩ := List.mem_map.mp hx
  refine ⟨by show 2 ≤ 1000; decide, fun y hy => ?_⟩
  have : y = .str s ∨ y = .tup ((dueRow R s).map fD) := by simpa using hy
  rcases this with rfl | rfl
  · exact True.intro
  · refine ⟨by rw [List.length_map, due_row_len]; have := w.len; omega, fun z hz => ?_⟩
    obtain ⟨q, _, rfl⟩ := List.mem_map.mp hz
    exact lk_frac 3 q
theorem lk_stand {R : Rounds} (w : Wf R) (ps : List Str) : Lk 7 (.lst ((namesQ R).map (standD R ps))) := by
  refine ⟨by rw [List.length_map]; have := names_len w; omega, fun x hx => ?_⟩
  obtain ⟨s, _, rfl⟩ := List.mem_map.mp hx
  refine ⟨by show 2 ≤ 1000; decide, fun y hy => ?_⟩
  have : y = .str s ∨ y = fD (standQ R ps s) := by simpa [standD] using hy
  rcases this with rfl | rfl
  · exact True.intro
  · exact lk_frac 4 _
/-- not like(x, x) is False -/
theorem et_like {t1 t2 : TE} (h1 : EvD K lk t1 ρ d) (h2 : EvD K lk t2 ρ d) (h : Lk 7 d) : EvB K lk (tNot (tB (tCall (sp_law_like K 7) [] E0 (tCons t1 (tCons t2 tNil))))) ρ false := et_not (a := true) (et_B (ev_call d (ea_cons h1 (ea_cons h2 ea_nil)) h))
theorem ev_dueList {R : Rounds} (w : Wf R) {i : Nat} (hi : ρ[i]? = some (.dat (.dk (dueKV R)))) (hl : i < ρ.length) {j : Nat} (hj : j < ρ.length) (hij : i ≠ j) : EvD K lk (tLc (iSeq K (tCB (rSortedU K) (tCons (tVar i) tNil))) (gName j) tYes (tTupU (tCons (tVar j) (tCons (rIxU K (tVar i) (tVar j)) tNil))) [j]) ρ (.lst (duesD R)) := by
  refine ev_forNames (ns := namesQ R) (is_lst (ev_sortDues w (ev_v hi))) (by have := names_len w; omega) (fun s => .tup [.str s, .tup ((dueRow R s).map fD)]) fun s hs => ?_
  have ej : ((wipeS ρ [j]).set j (.dat (.str s)))[j]? = some (.dat (.str s)) := by
    show (((ρ.set j .un)).set j _)[j]? = _
    rw [List.getElem?_set_self (by rw [List.length_set]; exact hj)]
  have ei : ((wipeS ρ [j]).set j (.dat (.str s)))[i]? = some (.dat (.dk (dueKV R))) := by
    show (((ρ.set j .un)).set j _)[i]? = _
    rw [List.getElem?_set_ne (fun z => hij z.symm), List.getElem?_set_ne (fun z => hij z.symm)]
    exact hi
  exact eu_tup (ds := [.str s, .tup ((dueRow R s).map fD)]) (ea_cons (ev_v ej) (ea_cons (eu_dget (k := .inr s) (ev_v ei) (ev_v ej) (dueKV_get hs)) ea_nil))
theorem is_lstP {T : List D → Prop} (h : EvS K lk te ρ (fun d => ∃ xs, d = .lst xs ∧ T xs)) : ItS K lk (iSeq K te) ρ T := itr (itl fun w0 w σ s R k => h w0 w σ s _ fun v w1 d l1 ok1 r1 ⟨xs, e, tx⟩ => by
  subst e
  obtain ⟨a, vs, e, sq, r⟩ := r1
  refine ⟨a, e, ⟨vs, sqLH ok1 sq⟩, k _ w1 xs l1 ok1 tx ⟨fun i w' ok' sm hi => ?_, fun i w' v' H' ok' sm y x hx => ?_, fun w' ok' sm => ?_⟩⟩
  · have hi' : i < vs.length := by rw [r.length]; exact hi
    exact ⟨vs, vs[i], sqLH ok' (sqL_keeps (.of_same sm) sq), List.getElem?_eq_getElem hi'⟩
  · obtain ⟨e', y⟩ := y
    obtain ⟨u, hu, ru⟩ := r.get hx
    have z := y vs (sqLH ok' (sqL_keeps (.of_same sm) sq))
    rw [hu] at z
    cases z
    exact ⟨w', e'.symm, .refl w', ok', ru.mono sm⟩
  · exact ⟨vs, sqLH ok' (sqL_keeps (.of_same sm) sq), Nat.le_of_eq r.length⟩)
/-- _law_rounds(tape, most, guests, e) -/
theorem ev_rounds {i j : Nat} {G : List Str} {most : Nat} {B : Bool → Prop} (ht : ρ[i]? = some .tape) (hm : EvD K lk ta ρ (.int (most : Int))) (hg : ρ[j]? = some (.dat (.lst (G.map D.str)))) (hb : EvS K lk tb ρ (fun d => ∃ b, d = .bl b ∧ B b)) (hG : Gs G) (h1 : 1 ≤ most) (h2 : most ≤ 20) :
    EvS K lk (tCall (sp_law_rounds K) [] E0 (tCons (tVar i) (tCons ta (tCons (tVar j) (tCons tb tNil))))) ρ (fun d => ∃ R b, d = rsD R ∧ B b ∧ RsOf G b most R) :=
  ev_call' (fun h => Bool.noConfusion h) (ea_tape (C := fun as => ∃ b, as = [.d (.int (most : Int)), .d (.lst (G.map D.str)), .d (.bl b)] ∧ B b) (R := fun as => ∃ b, as = encRounds (most, G, b) ∧ B b) ht
    (ea_cons' (A := fun d => d = .int (most : Int)) (C := fun as => ∃ b, as = [.d (.lst (G.map D.str)), .d (.bl b)] ∧ B b) hm (ea_cons' (A := fun d => d = .lst (G.map D.str)) (C := fun as => ∃ b, as = [.d (.bl b)] ∧ B b) (ev_v hg) (ea_cons' hb ea_nil fun d as ⟨b, e, h⟩ e2 => ⟨b, by rw [e, e2], h⟩) fun d as e ⟨b, e2, h⟩ => ⟨b, by rw [e, e2], h⟩) fun d as e ⟨b, e2, h⟩ => ⟨b, by rw [e, e2], h⟩)
    fun as ⟨b, e, h⟩ => ⟨b, by rw [e]; rfl, h⟩) fun as ⟨b, e, h⟩ => ⟨(most, G, b), e, ⟨h1, h2, hG⟩, fun d ⟨R, ed, hR⟩ => ⟨R, b, ed, h, hR⟩⟩
theorem ev_payers {i j : Nat} {R : Rounds} {most : Nat} (ht : ρ[i]? = some .tape) (hr : ρ[j]? = some (.dat (rsD R))) (hm : EvD K lk ta ρ (.int (most : Int))) (w : Wf R) (h : most ≤ 1000) : EvS K lk (tCall (sp_law_payers K) [] E0 (tCons (tVar i) (tCons (tVar j) (tCons ta tNil)))) ρ (fun d => ∃ ps, d = .tf ps ∧ Pays R ps ∧ ps.length ≤ most) :=
  ev_call' (fun h => Bool.noConfusion h) (ea_tape (C := fun as => as = [.d (rsD R), .d (.int (most : Int))]) (R := fun as => as = encPay (R, most)) ht (ea_cons (ev_v hr) (ea_cons hm ea_nil)) fun as e => by rw [e]; rfl) fun as e => ⟨(R, most), e, ⟨w, h⟩, fun d h => h⟩
/-- slots: 0 script, 1 tape, 2 guests, 3 turn, 4 rounds, 5 due, 6 name, 7 payers, 8 rows, 9 last, 10 told, 11 top, 12 gap -/
def t_law02_rest (K : PySem.W.Frag) : TS := (tSeq (tAsg (tLst (tCons (tC (.str "ann")) (tCons (tC (.str "bob")) (tCons (tC (.str "cy")) (tCons (tC (.str "dee")) (tCons (tC (.str "eve")) (tCons (tC (.str "fay")) tNil))))))) (gName 2)) (tSeq (tFor (iRng1 (tCons (tC (.int 3)) tNil)) (gName 3) (tSeq (tAsg (tCall (sp_law_rounds K) [] E0 (tCons (tVar 1) (tCons (tC (.int 12)) (tCons (tVar 2) (tCons (tOp (rEqU K) (tCall (sp_law_draw K) [] E0 (tCons (tVar 1) (tCons (tC (.int 2)) tNil))) (tC (.int 0))) tNil))))) (gName 4)) (tSeq (tAsg (tCall (sp_law_dues K) [] E0 (tCons (tVar 4) tNil)) (gName 5)) (tSeq (tIfS (tNot (tB (tCall (sp_law_like K 7) [] E0 (tCons (tCall (sp_dues K) [] E0 (tCons (tVar 4) tNil)) (tCons (tLc (iSeq K (tCB (rSortedU K) (tCons (tVar 5) tNil))) (gName 6) tYes (tTupU (tCons (tVar 6) (tCons (rIxU K (tVar 5) (tVar 6)) tNil))) [6]) tNil))))) (tRet (tC (.bl false))) tNext) (tSeq (tFor (iSeq K (tLst (tCons (tCall (sp_law_payers K) [] E0 (tCons (tVar 1) (tCons (tVar 4) (tCons (tC (.int 12)) tNil)))) (tCons (tTupU tNil) (tCons (tCall (sp_by_debts K) [] E0 (tCons (tVar 4) tNil)) tNil))))) (gName 7) (tSeq (tIfS (tNot (tB (tCall (sp_law_like K 7) [] E0 (tCons (tCall (sp_unfairness K) [] E0 (tCons (tVar 4) (tCons (tVar 7) tNil))) (tCons (tCall (sp_law_unfair K) [] E0 (tCons (tVar 4) (tCons (tVar 7) tNil))) tNil))))) (tRet (tC (.bl false))) tNext) (tSeq (tAsg (tLst tNil) (gName 8)) (tSeq (tFor (iSeq K (tCB (rSortedU K) (tCons (tVar 5) tNil))) (gName 6) (tSeq (tAsg (tIf (tTest (tOp (rNeU K) (tVar 7) (tTupU tNil))) (rIxU K (rIxU K (tVar 5) (tVar 6)) (tOp rSubI (tCB (rLenU K) (tCons (tVar 7) tNil)) (tC (.int 1)))) (tTupU (tCons (tC (.int 0)) (tCons (tC (.int 1)) tNil)))) (gName 9)) (tDrop (tBM K "list" rAppend (tVar 8) (tCons (tTupU (tCons (tVar 6) (tCons (tCall (sp_law_less K) [] E0 (tCons (tVar 9) (tCons (tTupU (tCons (tCount (tVar 7) (tCons (tVar 6) tNil)) (tCons (tC (.int 1)) tNil))) tNil))) tNil))) tNil))))) (tIfS (tNot (tB (tCall (sp_law_like K 7) [] E0 (tCons (tCall (sp_standing K) [] E0 (tCons (tVar 4) (tCons (tVar 7) tNil))) (tCons (tVar 8) tNil))))) (tRet (tC (.bl false))) tNext))))) (tSeq (tAsg (tCall (sp_standing K) [] E0 (tCons (tVar 4) (tCons (tCall (sp_by_debts K) [] E0 (tCons (tVar 4) tNil)) tNil))) (gName 10)) (tSeq (tAsg (tTupU (tCons (tC (.int 0)) (tCons (tC (.int 1)) tNil))) (gName 11)) (tSeq (tFor (iSeq K (tVar 10)) (gTup K 2 (gCons (gName 6) (gCons (gName 12) gNil))) (tAsg (tCall (sp_law_sum K) [] E0 (tCons (tVar 11) (tCons (tVar 12) tNil))) (gName 11))) (tIfS (tTest (tOp (rNeU K) (tVar 11) (tTupU (tCons (tC (.int 0)) (tCons (tC (.int 1)) tNil))))) (tRet (tC (.bl false))) tNext))))))))) (tRet (tC (.bl true)))))
def t_law02 (K : PySem.W.Frag) : TS := tSeq (t_start K) (t_law02_rest K)
theorem st_law02 : StS K false (t_law02_rest K) (.un :: .tape :: List.replicate 11 .un) (Fn fun d => d = .bl true) := by
  refine st_letD (d := .lst (G6.map D.str)) (ev_lst (ds := G6.map D.str) (ea_cons ev_str (ea_cons ev_str (ea_cons ev_str (ea_cons ev_str (ea_cons ev_str (ea_cons ev_str ea_nil))))))) ?_
  refine st_forq (js := [3]) (xs := rangeD 0 3) (it_rangeN (n := 3) ev_int (by decide)) (fun i ρ => ∃ x3 x4 x5 x6 x7 x8 x9 x10 x11 x12, ρ = [.un, .tape, .dat (.lst (G6.map D.str)), x3, x4, x5, x6, x7, x8, x9, x10, x11, x12]) ⟨_, _, _, _, _, _, _, _, _, _, rfl⟩ (fun i x ρ1 hx iv => ?_) fun ρ' iv => ?_
  · obtain ⟨x3, x4, x5, x6, x7, x8, x9, x10, x11, x12, rfl⟩ := iv
    refine ⟨_, tg_name, ?_⟩
    refine st_let (ev_rounds (B := fun _ => True) (most := 12) (G := G6) rfl ev_int rfl (eu_eqP (A := fun r => 0 ≤ r ∧ r < 2) (ev_draw rfl ev_int (by decide) (by decide)) ev_int fun _ _ => True.intro) gs6 (by decide) (by decide)) fun d ⟨R, ac, e, _, hR⟩ => ?_
    subst e
    have w : Wf R := wf_of_rows gs6 (by have := hR.len; omega) hR.rows
    have h40 := names_len w
    have h12 := hR.len
    refine st_let (ev_call R (ea_cons (ev_v rfl) ea_nil) w) fun d e => ?_
    have e : d = .dk (dueKV R) := e
    subst e
    refine st_ifq (et_like (d := .lst (duesD R)) (ev_call R (ea_cons (ev_v rfl) ea_nil) w) (ev_dueList w rfl (by show 5 < 13; decide) (by show 6 < 13; decide) (by decide)) (lk_dues w)) (fun z => Bool.noConfusion z) fun _ => st_nextq ?_
    refine st_seq (fun ρ => ∃ x6 x7 x8 x9 x10 x11 x12, ρ = [.un, .tape, .dat (.lst (G6.map D.str)), .dat x, .dat (rsD R), .dat (.dk (dueKV R)), x6, x7, x8, x9, x10, x11, x12]) ?_ fun ρ' iv => ?_
    · refine st_for (js := [7]) (X := fun xs => xs.length ≤ 3 ∧ ∀ y ∈ xs, ∃ qs, y = .tf qs ∧ Pays R qs) (is_lstP (ev_lst' (ea_cons' (ev_payers (R := R) (most := 12) rfl rfl ev_int w (by decide)) (ea_cons (eu_tupF [] ea_nil) (ea_cons (ev_call R (ea_cons (ev_v rfl) ea_nil) w) ea_nil)) (R := fun as => ∃ ps, as = dats [.tf ps, .tf [], .tf (byQ R)] ∧ Pays R ps) fun d as ⟨ps, e, hp, _⟩ e2 => ⟨ps, by rw [e, e2]; rfl, hp⟩) fun as ⟨ps, e, hp⟩ => ⟨_, e, by show 3 ≤ 1000; decide, _, rfl, Nat.le_refl _, fun y hy => ?_⟩)) (fun _ _ ρ => ∃ x6 x7 x8 x9 x10 x11 x12, ρ = [.un, .tape, .dat (.lst (G6.map D.str)), .dat x, .dat (rsD R), .dat (.dk (dueKV R)), x6, x7, x8, x9, x10, x11, x12]) (fun _ _ => ⟨_, _, _, _, _, _, _, rfl⟩) (fun xs j y ρ1 hX hy iv => ?_) fun _ ρ' _ h => h
      · have : y = .tf ps ∨ y = .tf [] ∨ y = .tf (byQ R) := by simpa using hy
        rcases this with rfl | rfl | rfl
        · exact ⟨ps, rfl, hp⟩
        · exact ⟨[], rfl, .nil R⟩
        · exact ⟨byQ R, rfl, by_pays w _ (Nat.le_refl _)⟩
      · obtain ⟨x6, x7, x8, x9, x10, x11, x12, rfl⟩ := iv
        obtain ⟨qs, rfl, hq⟩ := hX.2 y (List.mem_of_getElem? hy)
        have pre := hq.ok w
        have ql := hq.1
        refine ⟨_, tg_name, ?_⟩
        refine st_ifq (et_like (d := fD (unfQ R qs)) (ev_call ((R, qs) : RP) (ea_cons (ev_v rfl) (ea_cons (ev_v rfl) ea_nil)) pre) (ev_call ((R, qs) : RP) (ea_cons (ev_v rfl) (ea_cons (ev_v rfl) ea_nil)) pre) (lk_frac 6 _)) (fun z => Bool.noConfusion z) fun _ => st_nextq ?_
        refine st_own (ds := []) ea_nil ?_
        refine st_forq (js := [6]) (is_lst (ev_sortDues w (ev_v rfl))) (fun k ρ => ∃ x6 x9 x10 x11 x12, ρ = [.un, .tape, .dat (.lst (G6.map D.str)), .dat x, .dat (rsD R), .dat (.dk (dueKV R)), x6, .dat (.tf qs), .lst (((namesQ R).take k).map (standD R qs)), x9, x10, x11, x12]) ⟨_, _, _, _, _, rfl⟩ (fun k z ρ1 hz iv => ?_) fun ρ' iv => ?_
        · obtain ⟨x6, x9, x10, x11, x12, rfl⟩ := iv
          rw [List.getElem?_map] at hz
          cases hs : (namesQ R)[k]? with
          | none => rw [hs] at hz; cases hz
          | some s =>
            rw [hs] at hz
            have hz : D.str s = z := Option.some.inj hz
            subst hz
            refine ⟨_, tg_name, ?_⟩
            refine st_letD (ev_last (R := R) (s := s) (ev_v rfl) (eu_dget (k := .inr s) (ev_v rfl) (ev_v rfl) (dueKV_get (List.mem_of_getElem? hs))) (eu_tup (ds := [.int 0, .int 1]) (ea_cons ev_int (ea_cons ev_int ea_nil))) pre) ?_
            have hc : qs.count s ≤ 20 := by
              have h1 : qs.count s ≤ qs.length := List.count_le_length
              omega
            refine st_app' (P := fun x => x = standD R qs s) rfl (eu_tup (ds := [.str s, fD (standQ R qs s)]) (ea_cons (ev_v rfl) (ea_cons (ev_call ((dueQ R s qs.length, (((qs.count s : Nat) : Int) : Rat)) : Q2) (ea_cons (ev_v rfl) (ea_cons (ev_whole (eu_count (ev_v rfl) (ev_v rfl))) ea_nil)) ⟨due_small w s _, small_nat (by omega)⟩) ea_nil))) (by rw [List.length_map, List.length_take]; omega) fun d e => ⟨.dat (.str s), .dat (fD (dueQ R s qs.length)), x10, x11, x12, ?_⟩
            subst e
            rw [take_succ_of hs, List.map_append]
            rfl
        · obtain ⟨x6, x9, x10, x11, x12, rfl⟩ := iv
          rw [List.length_map, List.take_length]
          refine st_give (i := 8) rfl ?_
          exact st_if (et_like (d := .lst ((namesQ R).map (standD R qs))) (ev_call ((R, qs) : RP) (ea_cons (ev_v rfl) (ea_cons (ev_v rfl) ea_nil)) pre) (ev_v rfl) (lk_stand w qs)) (fun z => Bool.noConfusion z) fun _ => st_next ⟨_, _, _, _, _, _, _, rfl⟩
    · obtain ⟨x6, x7, x8, x9, x10, x11, x12, rfl⟩ := iv
      have hb : Pays R (byQ R) := by_pays w _ (Nat.le_refl _)
      refine st_let (ev_call ((R, byQ R) : RP) (ea_cons (ev_v rfl) (ea_cons (ev_call R (ea_cons (ev_v rfl) ea_nil) w) ea_nil)) (hb.ok w)) fun d e => ?_
      have e : d = .lst ((namesQ R).map (standD R (byQ R))) := e
      subst e
      refine st_letD (d := fD 0) (eu_tup (ds := [.int 0, .int 1]) (ea_cons ev_int (ea_cons ev_int ea_nil))) ?_
      have n6 : (namesQ R).length ≤ 6 := nodup_sub_len (names_nodup R) (ys := G6) fun s hs => by
        rw [names_mem] at hs
        unfold allN at hs
        obtain ⟨r, hr, hs⟩ := List.mem_flatMap.mp hs
        obtain ⟨g, hg, rfl⟩ := List.mem_map.mp hs
        exact (hR.rows r hr).inG g hg
      refine st_forq (js := [6, 12]) (is_lst (ev_v rfl)) (fun k ρ => ∃ x6 x12, ρ = [.un, .tape, .dat (.lst (G6.map D.str)), .dat x, .dat (rsD R), .dat (.dk (dueKV R)), x6, x7, x8, x9, .dat (.lst ((namesQ R).map (standD R (byQ R)))), .dat (fD (sumR ((namesQ R).take k) (standQ R (byQ R)))), x12]) ⟨_, _, rfl⟩ (fun k z ρ1 hz iv => ?_) fun ρ' iv => ?_
      · obtain ⟨x6, x12, rfl⟩ := iv
        rw [List.getElem?_map] at hz
        cases hs : (namesQ R)[k]? with
        | none => rw [hs] at hz; cases hz
        | some s =>
          rw [hs] at hz
          have hz : standD R (byQ R) s = z := Option.some.inj hz
          subst hz
          refine ⟨_, tg_tup2, ?_⟩
          have sb := hR.stand gs6 hb.1 s
          have sq : Bq (2 ^ 546) (sumR ((namesQ R).take k) (standQ R (byQ R))) := by
            have z := sum_bq (standQ R (byQ R)) (fun s => hR.stand gs6 hb.1 s) ((namesQ R).take k) 0 0 (.zero (Nat.le_refl _))
            refine z.mono (Nat.pow_le_pow_right (by decide) ?_)
            have : ((namesQ R).take k).length ≤ (namesQ R).length := by rw [List.length_take]; omega
            omega
          refine st_asg (ev_call ((sumR ((namesQ R).take k) (standQ R (byQ R)), standQ R (byQ R) s) : Q2) (ea_cons (ev_v rfl) (ea_cons (ev_v rfl) ea_nil)) ⟨sq.small (Nat.pow_lt_pow_right (by decide) (by decide)), sb.small (Nat.pow_lt_pow_right (by decide) (by decide))⟩) fun d e => ⟨.dat (.str s), .dat (fD (standQ R (byQ R) s)), ?_⟩
          have e : d = fD (sumR ((namesQ R).take k) (standQ R (byQ R)) + standQ R (byQ R) s) := e
          have e2 : sumR ((namesQ R).take (k + 1)) (standQ R (byQ R)) = sumR ((namesQ R).take k) (standQ R (byQ R)) + standQ R (byQ R) s := by
            unfold sumR
            rw [take_succ_of hs, List.foldl_append]
            rfl
          rw [e, e2]
          rfl
      · obtain ⟨x6, x12, rfl⟩ := iv
        rw [List.length_map, List.take_length, sum_stand w hb]
        refine st_if (b := false) (eb_is (et_test (eu_neD 1 (ev_v rfl) (eu_tup (ds := [.int 0, .int 1]) (ea_cons ev_int (ea_cons ev_int ea_nil))) ?_ ?_)) rfl) (fun z => Bool.noConfusion z) fun _ => st_next ⟨_, _, _, _, _, _, _, _, _, _, rfl⟩
        · intro y hy
          have : y = .int (0 : Rat).num ∨ y = .int ((0 : Rat).den : Int) := by simpa [fD] using hy
          rcases this with rfl | rfl <;> exact True.intro
        · intro y hy
          have : y = .int 0 ∨ y = .int 1 := by simpa using hy
          rcases this with rfl | rfl <;> exact True.intro
  · obtain ⟨x3, x4, x5, x6, x7, x8, x9, x10, x11, x12, rfl⟩ := iv
    exact st_ret ev_bl fun d e => e
theorem run_law02 : ∀ vs H Q E, sp_law K vs H Q E → t_law02 K { nx := fun _ H' => Q .non H', rt := Q } (L2.start ["script", "tape", "guests", "turn", "rounds", "due", "name", "payers", "rows", "last", "told", "top", "gap"] vs) H := law_run rfl st_law02
end
end RF

set_option maxHeartbeats 0
namespace RF
open PySem L2
def top (i : Nat) : Stmt := PySem.Challenge.pw_roundfair_k02_dues_and_gaps_by_hand.main.body.getD i (.Pass ⟨0, 0, 0, 0⟩)
theorem sc_fraction : FnScope ["top", "bottom", "one", "other"] ["top", "bottom"] (defScope (top 2)) := ⟨rfl, rfl, rfl, by decide +kernel, rfl, by decide +kernel, by decide +kernel⟩
theorem c_fraction {P : Program} {w : World} {K : PySem.W.Frag} {mg : Str → Option Value} {base : Heap} (F : Df K mg "fraction" (top 2)) (f_abs : mg "abs" = none) : Cal P w K mg base 1 "fraction" ["top", "bottom"] (sp_fraction K) := by
  have sc := sc_fraction
  refine F.cal (k := 0) (t := t_fraction K) sc (fun _ _ _ _ _ _ us hl => match us, hl with | [_, _], _ => rfl) (sp_len fun _ => rfl) run_fraction fun f cdv A outer s H E hr => ?_
  exact (pss_cons (ps_par rfl sc.nd rfl rfl (by decide) rfl rfl (pa_cons (pe_callB call_abs (by rfl) f_abs (by decide +kernel) (pa_cons (pv 0) pa_nil)) (pa_cons (pv 1) pa_nil)) (by rfl)) (pss_cons (ps_while PassesOwn.never (pt_cmpR (ou_ne hr) (pv 3) pe_int (nomark _)) (pss_one (ps_par rfl sc.nd rfl rfl (by decide) rfl rfl (pa_cons (pv 3) (pa_cons (pe_op op_mod (pv 2) (pv 3)) pa_nil)) (by rfl)))) (pss_one (ps_ret (pu_tup (pa_cons (pe_op op_fdivW (pv 0) (pv 2)) (pa_cons (pe_op op_fdivW (pv 1) (pv 2)) pa_nil)))))))
theorem sc_plus : FnScope ["one", "other"] ["one", "other"] (defScope (top 3)) := ⟨rfl, rfl, rfl, by decide +kernel, rfl, by decide +kernel, by decide +kernel⟩
theorem c_plus {P : Program} {w : World} {K : PySem.W.Frag} {mg : Str → Option Value} {base : Heap} (F : Df K mg "plus" (top 3)) (c_fraction : Cal P w K mg base 1 "fraction" ["top", "bottom"] (sp_fraction K)) : Cal P w K mg base 2 "plus" ["one", "other"] (sp_plus K) := by
  have sc := sc_plus
  refine F.cal (k := 1) (t := t_plus K) sc (fun _ _ _ _ _ _ us hl => match us, hl with | [_, _], _ => rfl) (sp_len fun _ => rfl) run_plus fun f cdv A outer s H E hr => ?_
  exact (pss_one (ps_ret (pu_call c_fraction hr (by decide) (by rfl) (pa_cons (pe_op ou_add (pe_op ou_mul (pu_ix hr (pv 0) pe_int (fun _ _ => rfl)) (pu_ix hr (pv 1) pe_int (fun _ _ => rfl))) (pe_op ou_mul (pu_ix hr (pv 1) pe_int (fun _ _ => rfl)) (pu_ix hr (pv 0) pe_int (fun _ _ => rfl)))) (pa_cons (pe_op ou_mul (pu_ix hr (pv 0) pe_int (fun _ _ => rfl)) (pu_ix hr (pv 1) pe_int (fun _ _ => rfl))) pa_nil)) pass0)))
theorem sc_minus : FnScope ["one", "other"] ["one", "other"] (defScope (top 4)) := ⟨rfl, rfl, rfl, by decide +kernel, rfl, by decide +kernel, by decide +kernel⟩
theorem c_minus {P : Program} {w : World} {K : PySem.W.Frag} {mg : Str → Option Value} {base : Heap} (F : Df K mg "minus" (top 4)) (c_fraction : Cal P w K mg base 1 "fraction" ["top", "bottom"] (sp_fraction K)) : Cal P w K mg base 2 "minus" ["one", "other"] (sp_minus K) := by
  have sc := sc_minus
  refine F.cal (k := 1) (t := t_minus K) sc (fun _ _ _ _ _ _ us hl => match us, hl with | [_, _], _ => rfl) (sp_len fun _ => rfl) run_minus fun f cdv A outer s H E hr => ?_
  exact (pss_one (ps_ret (pu_call c_fraction hr (by decide) (by rfl) (pa_cons (pe_op op_sub (pe_op ou_mul (pu_ix hr (pv 0) pe_int (fun _ _ => rfl)) (pu_ix hr (pv 1) pe_int (fun _ _ => rfl))) (pe_op ou_mul (pu_ix hr (pv 1) pe_int (fun _ _ => rfl)) (pu_ix hr (pv 0) pe_int (fun _ _ => rfl)))) (pa_cons (pe_op ou_mul (pu_ix hr (pv 0) pe_int (fun _ _ => rfl)) (pu_ix hr (pv 1) pe_int (fun _ _ => rfl))) pa_nil)) pass0)))
theorem sc_is_less : FnScope ["one", "other"] ["one", "other"] (defScope (top 5)) := ⟨rfl, rfl, rfl, by decide +kernel, rfl, by decide +kernel, by decide +kernel⟩
theorem c_is_less {P : Program} {w : World} {K : PySem.W.Frag} {mg : Str → Option Value} {base : Heap} (F : Df K mg "is_less" (top 5)) : Cal P w K mg base 1 "is_less" ["one", "other"] (sp_is_less K) := by
  have sc := sc_is_less
  refine F.cal (k := 0) (t := t_is_less K) sc (fun _ _ _ _ _ _ us hl => match us, hl with | [_, _], _ => rfl) (sp_len fun _ => rfl) run_is_less fun f cdv A outer s H E hr => ?_
  exact (pss_one (ps_ret (pe_cmpR (ou_lt hr) (pe_op ou_mul (pu_ix hr (pv 0) pe_int (fun _ _ => rfl)) (pu_ix hr (pv 1) pe_int (fun _ _ => rfl))) (pe_op ou_mul (pu_ix hr (pv 1) pe_int (fun _ _ => rfl)) (pu_ix hr (pv 0) pe_int (fun _ _ => rfl))) (nomark _))))
theorem sc_far : FnScope ["one", "other", "found"] ["one", "other"] (defScope (top 6)) := ⟨rfl, rfl, rfl, by decide +kernel, rfl, by decide +kernel, by decide +kernel⟩
theorem c_far {P : Program} {w : World} {K : PySem.W.Frag} {mg : Str → Option Value} {base : Heap} (F : Df K mg "far" (top 6)) (c_minus : Cal P w K mg base 2 "minus" ["one", "other"] (sp_minus K)) (f_abs : mg "abs" = none) : Cal P w K mg base 3 "far" ["one", "other"] (sp_far K) := by
  have sc := sc_far
  refine F.cal (k := 2) (t := t_far K) sc (fun _ _ _ _ _ _ us hl => match us, hl with | [_, _], _ => rfl) (sp_len fun _ => rfl) run_far fun f cdv A outer s H E hr => ?_
  exact (pss_cons (ps_set (i := 2) sc.nd rfl (by first | exact Or.inl rfl | exact Or.inr rfl) (pu_call c_minus hr (by decide) (by rfl) (pa_cons (pv 0) (pa_cons (pv 1) pa_nil)) pass0)) (pss_one (ps_ret (pu_tup (pa_cons (pe_callB call_abs (by rfl) f_abs (by decide +kernel) (pa_cons (pu_ix hr (pv 2) pe_int (fun _ _ => rfl)) pa_nil)) (pa_cons (pu_ix hr (pv 2) pe_int (fun _ _ => rfl)) pa_nil))))))
theorem sc_whole : FnScope ["number"] ["number"] (defScope (top 7)) := ⟨rfl, rfl, rfl, by decide +kernel, rfl, by decide +kernel, by decide +kernel⟩
theorem c_whole {P : Program} {w : World} {K : PySem.W.Frag} {mg : Str → Option Value} {base : Heap} (F : Df K mg "whole" (top 7)) : Cal P w K mg base 1 "whole" ["number"] (sp_whole K) := by
  have sc := sc_whole
  refine F.cal (k := 0) (t := t_whole K) sc (fun _ _ _ _ _ _ us hl => match us, hl with | [_], _ => rfl) (sp_len fun _ => rfl) run_whole fun f cdv A outer s H E hr => ?_
  exact (pss_one (ps_ret (pu_tup (pa_cons (pv 0) (pa_cons pe_int pa_nil)))))
theorem sc_greater : FnScope ["one", "other"] ["one", "other"] (defScope (top 8)) := ⟨rfl, rfl, rfl, by decide +kernel, rfl, by decide +kernel, by decide +kernel⟩
theorem c_greater {P : Program} {w : World} {K : PySem.W.Frag} {mg : Str → Option Value} {base : Heap} (F : Df K mg "greater" (top 8)) (c_is_less : Cal P w K mg base 1 "is_less" ["one", "other"] (sp_is_less K)) : Cal P w K mg base 2 "greater" ["one", "other"] (sp_greater K) := by
  have sc := sc_greater
  refine F.cal (k := 1) (t := t_greater K) sc (fun _ _ _ _ _ _ us hl => match us, hl with | [_, _], _ => rfl) (sp_len fun _ => rfl) run_greater fun f cdv A outer s H E hr => ?_
  exact (pss_one (ps_ret (pe_ifExp (pt_val (pu_call c_is_less hr (by decide) (by rfl) (pa_cons (pv 0) (pa_cons (pv 1) pa_nil)) pass0)) (pv 1) (pv 0))))
theorem sc_names : FnScope ["rounds", "row", "name", "weight", "can"] ["rounds"] (defScope (top 10)) := ⟨rfl, rfl, rfl, by decide +kernel, rfl, by decide +kernel, by decide +kernel⟩
theorem c_names {P : Program} {w : World} {K : PySem.W.Frag} {mg : Str → Option Value} {base : Heap} (F : Df K mg "names" (top 10)) (f_sorted : mg "sorted" = none) : Cal P w K mg base 1 "names" ["rounds"] (sp_names K) := by
  have sc := sc_names
  refine F.cal (k := 0) (t := t_names K) sc (fun _ _ _ _ _ _ us hl => match us, hl with | [_], _ => rfl) (sp_len fun _ => rfl) run_names fun f cdv A outer s H E hr => ?_
  exact (pss_one (ps_ret (pe_callB (cu_sorted rfl) (by rfl) f_sorted (by decide +kernel) (pa_cons (pe_dc2 (own := [("row", 1), ("name", 2), ("weight", 3), ("can", 4)]) (vs1 := [2, 3, 4]) hr rfl sc.nd (pu_seq (pv 0)) (blkOk_by (by kernel_rfl)) (by decide) (fun _ _ _ _ _ => (pg_name (i := 1) sc.nd rfl (by first | exact Or.inl rfl | exact Or.inr rfl))) (fun _ _ _ _ _ => (pu_seq (pv 1))) (fun _ _ _ _ _ => (pg_tup rfl (pgs_cons (pg_name (i := 2) sc.nd rfl (by first | exact Or.inl rfl | exact Or.inr rfl)) (pgs_cons (pg_name (i := 3) sc.nd rfl (by first | exact Or.inl rfl | exact Or.inr rfl)) (pgs_cons (pg_name (i := 4) sc.nd rfl (by first | exact Or.inl rfl | exact Or.inr rfl)) pgs_nil))))) (fun _ _ _ _ _ => (pv 2)) (fun _ _ _ _ _ => pe_bl)) pa_nil))))
theorem sc_part : FnScope ["row", "name", "some", "guest", "weight", "can"] ["row", "name"] (defScope (top 11)) := ⟨rfl, rfl, rfl, by decide +kernel, rfl, by decide +kernel, by decide +kernel⟩
theorem c_part {P : Program} {w : World} {K : PySem.W.Frag} {mg : Str → Option Value} {base : Heap} (F : Df K mg "part" (top 11)) (c_fraction : Cal P w K mg base 1 "fraction" ["top", "bottom"] (sp_fraction K)) (f_sum : mg "sum" = none) (g_NOUGHT : mg "NOUGHT" = some (.ref (He.ga K "NOUGHT"))) (hn : NoughtOk K) : Cal P w K mg base 2 "part" ["row", "name"] (sp_part K) := by
  have sc := sc_part
  refine F.cal (k := 1) (t := t_part K) sc (fun _ _ _ _ _ _ us hl => match us, hl with | [_, _], _ => rfl) (sp_len fun _ => rfl) (run_part hn) fun f cdv A outer s H E hr => ?_
  exact (pss_cons (ps_setLc (i := 2) (own := [("guest", 3), ("weight", 4), ("can", 5)]) rfl sc.nd rfl rfl (sw_true rfl rfl rfl (by decide +kernel)) (pu_seq (pv 0)) (blkOk_by (by kernel_rfl)) (fun _ _ _ _ _ => (pg_tup rfl (pgs_cons (pg_name (i := 3) sc.nd rfl (by first | exact Or.inl rfl | exact Or.inr rfl)) (pgs_cons (pg_name (i := 4) sc.nd rfl (by first | exact Or.inl rfl | exact Or.inr rfl)) (pgs_cons (pg_name (i := 5) sc.nd rfl (by first | exact Or.inl rfl | exact Or.inr rfl)) pgs_nil))))) (fun _ _ _ _ _ => (pts_one (pt_cmpR (ou_eq hr) (pv 3) (pv 1) (nomark _)))) (fun _ _ _ _ _ => (pv 4))) (pss_one (ps_ret (pe_ifExp (pt_cmpR (ou_ne hr) (pv 2) (pe_lst pa_nil) (nomark _)) (pu_call c_fraction hr (by decide) (by rfl) (pa_cons (pu_ix hr (pv 2) pe_int (fun _ _ => rfl)) (pa_cons (pe_callB (cr_sum rfl) (by rfl) f_sum (by decide +kernel) (pa_cons (pe_lc (own := [("guest", 3), ("weight", 4), ("can", 5)]) rfl sc.nd (pu_seq (pv 0)) (blkOk_by (by kernel_rfl)) (fun _ _ _ _ _ => (pg_tup rfl (pgs_cons (pg_name (i := 3) sc.nd rfl (by first | exact Or.inl rfl | exact Or.inr rfl)) (pgs_cons (pg_name (i := 4) sc.nd rfl (by first | exact Or.inl rfl | exact Or.inr rfl)) (pgs_cons (pg_name (i := 5) sc.nd rfl (by first | exact Or.inl rfl | exact Or.inr rfl)) pgs_nil))))) (fun _ _ _ _ _ => pts_nil) (fun _ _ _ _ _ => (pv 4))) pa_nil)) pa_nil)) pass0) (pe_glob (by rfl) g_NOUGHT rfl)))))
theorem sc_due_row : FnScope ["rounds", "name", "found", "last", "row"] ["rounds", "name"] (defScope (top 12)) := ⟨rfl, rfl, rfl, by decide +kernel, rfl, by decide +kernel, by decide +kernel⟩
theorem c_due_row {P : Program} {w : World} {K : PySem.W.Frag} {mg : Str → Option Value} {base : Heap} (F : Df K mg "due_row" (top 12)) (c_plus : Cal P w K mg base 2 "plus" ["one", "other"] (sp_plus K)) (c_part : Cal P w K mg base 2 "part" ["row", "name"] (sp_part K)) (f_tuple : mg "tuple" = none) (g_NOUGHT : mg "NOUGHT" = some (.ref (He.ga K "NOUGHT"))) (hn : NoughtOk K) : Cal P w K mg base 3 "due_row" ["rounds", "name"] (sp_due_row K) := by
  have sc := sc_due_row
  refine F.cal (k := 2) (t := t_due_row K) sc (fun _ _ _ _ _ _ us hl => match us, hl with | [_, _], _ => rfl) (sp_len fun _ => rfl) (run_due_row hn) fun f cdv A outer s H E hr => ?_
  exact (pss_cons (ps_par rfl sc.nd rfl rfl (by decide) rfl rfl (pa_cons (pe_lst pa_nil) (pa_cons (pe_glob (by rfl) g_NOUGHT rfl) pa_nil)) (by rfl)) (pss_cons (ps_for PassesOwn.never rfl (pu_seq (pv 0)) (pg_name (i := 4) sc.nd rfl (by first | exact Or.inl rfl | exact Or.inr rfl)) (pss_cons (ps_set (i := 3) sc.nd rfl (by first | exact Or.inl rfl | exact Or.inr rfl) (pu_call c_plus hr (by decide) (by rfl) (pa_cons (pv 3) (pa_cons (pu_call c_part hr (by decide) (by rfl) (pa_cons (pv 4) (pa_cons (pv 1) pa_nil)) pass0) pa_nil)) pass0)) (pss_one (ps_expr (pe_bm PySem.F.plainAttrs_list PySem.F.slot_list_append PySem.F.type_list_append mt_append (pv 2) (pa_cons (pv 3) pa_nil)))))) (pss_one (ps_ret (pe_callTy cu_tup (by rfl) f_tuple (by decide +kernel) (pa_cons (pv 2) pa_nil))))))
theorem sc_dues : FnScope ["rounds", "name"] ["rounds"] (defScope (top 13)) := ⟨rfl, rfl, rfl, by decide +kernel, rfl, by decide +kernel, by decide +kernel⟩
theorem c_dues {P : Program} {w : World} {K : PySem.W.Frag} {mg : Str → Option Value} {base : Heap} (F : Df K mg "dues" (top 13)) (c_names : Cal P w K mg base 1 "names" ["rounds"] (sp_names K)) (c_due_row : Cal P w K mg base 3 "due_row" ["rounds", "name"] (sp_due_row K)) : Cal P w K mg base 4 "dues" ["rounds"] (sp_dues K) := by
  have sc := sc_dues
  refine F.cal (k := 3) (t := t_dues K) sc (fun _ _ _ _ _ _ us hl => match us, hl with | [_], _ => rfl) (sp_len fun _ => rfl) run_dues fun f cdv A outer s H E hr => ?_
  exact (pss_one (ps_ret (pe_lc (own := [("name", 1)]) rfl sc.nd (pu_seq (pu_call c_names hr (by decide) (by rfl) (pa_cons (pv 0) pa_nil) pass0)) (blkOk_by (by kernel_rfl)) (fun _ _ _ _ _ => (pg_name (i := 1) sc.nd rfl (by first | exact Or.inl rfl | exact Or.inr rfl))) (fun _ _ _ _ _ => pts_nil) (fun _ _ _ _ _ => (pu_tup (pa_cons (pv 1) (pa_cons (pu_call c_due_row hr (by decide) (by rfl) (pa_cons (pv 0) (pa_cons (pv 1) pa_nil)) pass0) pa_nil)))))))
theorem sc_who_can : FnScope ["row", "name", "weight", "can"] ["row"] (defScope (top 14)) := ⟨rfl, rfl, rfl, by decide +kernel, rfl, by decide +kernel, by decide +kernel⟩
theorem c_who_can {P : Program} {w : World} {K : PySem.W.Frag} {mg : Str → Option Value} {base : Heap} (F : Df K mg "who_can" (top 14)) : Cal P w K mg base 1 "who_can" ["row"] (sp_who_can K) := by
  have sc := sc_who_can
  refine F.cal (k := 0) (t := t_who_can K) sc (fun _ _ _ _ _ _ us hl => match us, hl with | [_], _ => rfl) (sp_len fun _ => rfl) run_who_can fun f cdv A outer s H E hr => ?_
  exact (pss_one (ps_ret (pe_lc (own := [("name", 1), ("weight", 2), ("can", 3)]) rfl sc.nd (pu_seq (pv 0)) (blkOk_by (by kernel_rfl)) (fun _ _ _ _ _ => (pg_tup rfl (pgs_cons (pg_name (i := 1) sc.nd rfl (by first | exact Or.inl rfl | exact Or.inr rfl)) (pgs_cons (pg_name (i := 2) sc.nd rfl (by first | exact Or.inl rfl | exact Or.inr rfl)) (pgs_cons (pg_name (i := 3) sc.nd rfl (by first | exact Or.inl rfl | exact Or.inr rfl)) pgs_nil))))) (fun _ _ _ _ _ => (pts_one (pt_cmpR (ou_eq hr) (pv 3) pe_int (nomark _)))) (fun _ _ _ _ _ => (pv 1)))))
theorem sc_unfairness : FnScope ["rounds", "payers", "found", "name", "row", "place"] ["rounds", "payers"] (defScope (top 15)) := ⟨rfl, rfl, rfl, by decide +kernel, rfl, by decide +kernel, by decide +kernel⟩
theorem c_unfairness {P : Program} {w : World} {K : PySem.W.Frag} {mg : Str → Option Value} {base : Heap} (F : Df K mg "unfairness" (top 15)) (c_dues : Cal P w K mg base 4 "dues" ["rounds"] (sp_dues K)) (c_greater : Cal P w K mg base 2 "greater" ["one", "other"] (sp_greater K)) (c_far : Cal P w K mg base 3 "far" ["one", "other"] (sp_far K)) (c_whole : Cal P w K mg base 1 "whole" ["number"] (sp_whole K)) (f_len : mg "len" = none) (f_range : mg "range" = none) (g_NOUGHT : mg "NOUGHT" = some (.ref (He.ga K "NOUGHT"))) (hn : NoughtOk K) : Cal P w K mg base 5 "unfairness" ["rounds", "payers"] (sp_unfairness K) := by
  have sc := sc_unfairness
  refine F.cal (k := 4) (t := t_unfairness K) sc (fun _ _ _ _ _ _ us hl => match us, hl with | [_, _], _ => rfl) (sp_len fun _ => rfl) (run_unfairness hn) fun f cdv A outer s H E hr => ?_
  exact (pss_cons (ps_set (i := 2) sc.nd rfl (by first | exact Or.inl rfl | exact Or.inr rfl) (pe_glob (by rfl) g_NOUGHT rfl)) (pss_cons (ps_for PassesOwn.never rfl (pu_seq (pu_call c_dues hr (by decide) (by rfl) (pa_cons (pv 0) pa_nil) pass0)) (pg_tup rfl (pgs_cons (pg_name (i := 3) sc.nd rfl (by first | exact Or.inl rfl | exact Or.inr rfl)) (pgs_cons (pg_name (i := 4) sc.nd rfl (by first | exact Or.inl rfl | exact Or.inr rfl)) pgs_nil))) (pss_one (ps_for PassesOwn.never rfl (pi_range1 (by rfl) f_range (pa_cons (pe_callB cu_len (by rfl) f_len (by decide +kernel) (pa_cons (pv 1) pa_nil)) pa_nil)) (pg_name (i := 5) sc.nd rfl (by first | exact Or.inl rfl | exact Or.inr rfl)) (pss_one (ps_set (i := 2) sc.nd rfl (by first | exact Or.inl rfl | exact Or.inr rfl) (pu_call c_greater hr (by decide) (by rfl) (pa_cons (pv 2) (pa_cons (pu_call c_far hr (by decide) (by rfl) (pa_cons (pu_ix hr (pv 4) (pv 5) (fun _ _ => rfl)) (pa_cons (pu_call c_whole hr (by decide) (by rfl) (pa_cons (pu_count hr (pe_slice su_any (pv 1) po_none (po_some (pe_op ou_add (pv 5) pe_int))) (pa_cons (pv 3) pa_nil)) pa_nil) pass0) pa_nil)) pass0) pa_nil)) pass0)))))) (pss_one (ps_ret (pv 2)))))
theorem sc_standing : FnScope ["rounds", "payers", "found", "name", "row", "due"] ["rounds", "payers"] (defScope (top 16)) := ⟨rfl, rfl, rfl, by decide +kernel, rfl, by decide +kernel, by decide +kernel⟩
theorem c_standing {P : Program} {w : World} {K : PySem.W.Frag} {mg : Str → Option Value} {base : Heap} (F : Df K mg "standing" (top 16)) (c_dues : Cal P w K mg base 4 "dues" ["rounds"] (sp_dues K)) (c_minus : Cal P w K mg base 2 "minus" ["one", "other"] (sp_minus K)) (c_whole : Cal P w K mg base 1 "whole" ["number"] (sp_whole K)) (f_len : mg "len" = none) (g_NOUGHT : mg "NOUGHT" = some (.ref (He.ga K "NOUGHT"))) (hn : NoughtOk K) : Cal P w K mg base 5 "standing" ["rounds", "payers"] (sp_standing K) := by
  have sc := sc_standing
  refine F.cal (k := 4) (t := t_standing K) sc (fun _ _ _ _ _ _ us hl => match us, hl with | [_, _], _ => rfl) (sp_len fun _ => rfl) (run_standing hn) fun f cdv A outer s H E hr => ?_
  exact (pss_cons (ps_set (i := 2) sc.nd rfl (by first | exact Or.inl rfl | exact Or.inr rfl) (pe_lst pa_nil)) (pss_cons (ps_for PassesOwn.never rfl (pu_seq (pu_call c_dues hr (by decide) (by rfl) (pa_cons (pv 0) pa_nil) pass0)) (pg_tup rfl (pgs_cons (pg_name (i := 3) sc.nd rfl (by first | exact Or.inl rfl | exact Or.inr rfl)) (pgs_cons (pg_name (i := 4) sc.nd rfl (by first | exact Or.inl rfl | exact Or.inr rfl)) pgs_nil))) (pss_cons (ps_set (i := 5) sc.nd rfl (by first | exact Or.inl rfl | exact Or.inr rfl) (pe_ifExp (pt_cmpR (ou_ne hr) (pv 1) (pu_tup pa_nil) (nomark _)) (pu_ix hr (pv 4) (pe_op op_sub (pe_callB cu_len (by rfl) f_len (by decide +kernel) (pa_cons (pv 1) pa_nil)) pe_int) (fun _ _ => rfl)) (pe_glob (by rfl) g_NOUGHT rfl))) (pss_one (ps_expr (pe_bm PySem.F.plainAttrs_list PySem.F.slot_list_append PySem.F.type_list_append mt_append (pv 2) (pa_cons (pu_tup (pa_cons (pv 3) (pa_cons (pu_call c_minus hr (by decide) (by rfl) (pa_cons (pv 5) (pa_cons (pu_call c_whole hr (by decide) (by rfl) (pa_cons (pu_count hr (pv 1) (pa_cons (pv 3) pa_nil)) pa_nil) pass0) pa_nil)) pass0) pa_nil))) pa_nil)))))) (pss_one (ps_ret (pv 2)))))
theorem sc_by_debts : FnScope ["rounds", "payers", "place", "row", "best_one", "name", "debt"] ["rounds"] (defScope (top 18)) := ⟨rfl, rfl, rfl, by decide +kernel, rfl, by decide +kernel, by decide +kernel⟩
theorem c_by_debts {P : Program} {w : World} {K : PySem.W.Frag} {mg : Str → Option Value} {base : Heap} (F : Df K mg "by_debts" (top 18)) (c_who_can : Cal P w K mg base 1 "who_can" ["row"] (sp_who_can K)) (c_is_less : Cal P w K mg base 1 "is_less" ["one", "other"] (sp_is_less K)) (c_minus : Cal P w K mg base 2 "minus" ["one", "other"] (sp_minus K)) (c_whole : Cal P w K mg base 1 "whole" ["number"] (sp_whole K)) (c_due_row : Cal P w K mg base 3 "due_row" ["rounds", "name"] (sp_due_row K)) (f_enumerate : mg "enumerate" = none) : Cal P w K mg base 4 "by_debts" ["rounds"] (sp_by_debts K) := by
  have sc := sc_by_debts
  refine F.cal (k := 3) (t := t_by_debts K) sc (fun _ _ _ _ _ _ us hl => match us, hl with | [_], _ => rfl) (sp_len fun _ => rfl) run_by_debts fun f cdv A outer s H E hr => ?_
  exact (pss_cons (ps_set (i := 1) sc.nd rfl (by first | exact Or.inl rfl | exact Or.inr rfl) (pu_tup pa_nil)) (pss_cons (ps_for PassesOwn.never rfl (pu_enum (by rfl) f_enumerate (pa_cons (pv 0) pa_nil)) (pg_tup rfl (pgs_cons (pg_name (i := 2) sc.nd rfl (by first | exact Or.inl rfl | exact Or.inr rfl)) (pgs_cons (pg_name (i := 3) sc.nd rfl (by first | exact Or.inl rfl | exact Or.inr rfl)) pgs_nil))) (pss_cons (ps_set (i := 4) sc.nd rfl (by first | exact Or.inl rfl | exact Or.inr rfl) pe_non) (pss_cons (ps_for PassesOwn.never rfl (pu_seq (pu_call c_who_can hr (by decide) (by rfl) (pa_cons (pv 3) pa_nil) pass0)) (pg_name (i := 5) sc.nd rfl (by first | exact Or.inl rfl | exact Or.inr rfl)) (pss_cons (ps_set (i := 6) sc.nd rfl (by first | exact Or.inl rfl | exact Or.inr rfl) (pu_call c_minus hr (by decide) (by rfl) (pa_cons (pu_ix hr (pu_call c_due_row hr (by decide) (by rfl) (pa_cons (pv 0) (pa_cons (pv 5) pa_nil)) pass0) (pv 2) (fun _ _ => rfl)) (pa_cons (pu_call c_whole hr (by decide) (by rfl) (pa_cons (pu_count hr (pv 1) (pa_cons (pv 5) pa_nil)) pa_nil) pass0) pa_nil)) pass0)) (pss_one (ps_if (PW.pt (pw_or (pt_cmpR op_isN (pv 4) pe_non (nomark _)) (pw_or1 (pt_val (pu_call c_is_less hr (by decide) (by rfl) (pa_cons (pu_ix hr (pv 4) pe_int (fun _ _ => rfl)) (pa_cons (pv 6) pa_nil)) pass0))))) (pss_one (ps_set (i := 4) sc.nd rfl (by first | exact Or.inl rfl | exact Or.inr rfl) (pu_tup (pa_cons (pv 6) (pa_cons (pv 5) pa_nil))))) pss_nil)))) (pss_one (ps_set (i := 1) sc.nd rfl (by first | exact Or.inl rfl | exact Or.inr rfl) (pe_op ou_add (pv 1) (pu_tup (pa_cons (pu_ix hr (pv 4) pe_int (fun _ _ => rfl)) pa_nil)))))))) (pss_one (ps_ret (pv 1)))))
theorem sc_law_draw : FnScope ["tape", "many", "prime", "cell", "found"] ["tape", "many"] (defScope (top 20)) := ⟨rfl, rfl, rfl, by decide +kernel, rfl, by decide +kernel, by decide +kernel⟩
theorem c_law_draw {P : Program} {w : World} {K : PySem.W.Frag} {mg : Str → Option Value} {base : Heap} (F : Df K mg "_law_draw" (top 20)) (f_len : mg "len" = none) : Cal P w K mg base 1 "_law_draw" ["tape", "many"] (sp_law_draw K) := by
  have sc := sc_law_draw
  refine F.cal (k := 0) (t := t_law_draw K) sc (fun _ _ _ _ _ _ us hl => match us, hl with | [_, _], _ => rfl) (sp_len fun _ => rfl) run_law_draw fun f cdv A outer s H E hr => ?_
  exact (pss_cons (ps_set (i := 2) sc.nd rfl (by first | exact Or.inl rfl | exact Or.inr rfl) pe_int) (pss_cons (ps_if (pt_cmpR (ou_lt hr) (pu_ix hr (pv 0) pe_int (fun _ _ => rfl)) (pv 1) (nomark _)) (pss_cons (ps_set (i := 3) sc.nd rfl (by first | exact Or.inl rfl | exact Or.inr rfl) pe_int) (pss_cons (ps_if (pt_cmpR op_gt (pe_callB cu_len (by rfl) f_len (by decide +kernel) (pa_cons (pu_ix hr (pv 0) pe_int (fun _ _ => rfl)) pa_nil)) pe_int (nomark _)) (pss_one (ps_set (i := 3) sc.nd rfl (by first | exact Or.inl rfl | exact Or.inr rfl) (pu_ix hr (pu_ix hr (pv 0) pe_int (fun _ _ => rfl)) (pe_op op_mod (pu_ix hr (pv 0) pe_int (fun _ _ => rfl)) (pe_callB cu_len (by rfl) f_len (by decide +kernel) (pa_cons (pu_ix hr (pv 0) pe_int (fun _ _ => rfl)) pa_nil))) (fun _ _ => rfl)))) pss_nil) (pss_cons (ps_if (PW.pt (pw_or (pt_cmpR op_ge (pu_ix hr (pv 0) pe_int (fun _ _ => rfl)) (pe_callB cu_len (by rfl) f_len (by decide +kernel) (pa_cons (pu_ix hr (pv 0) pe_int (fun _ _ => rfl)) pa_nil)) (nomark _)) (pw_or1 (pt_cmpR (ou_lt hr) (pv 3) (pe_op op_pow pe_int pe_int) (nomark _))))) (pss_cons (ps_set (i := 3) sc.nd rfl (by first | exact Or.inl rfl | exact Or.inr rfl) (pe_op op_mod (pe_op ou_add (pv 3) (pe_op ou_mul pe_int (pu_ix hr (pv 0) pe_int (fun _ _ => rfl)))) (pv 2))) (pss_cons (ps_set (i := 3) sc.nd rfl (by first | exact Or.inl rfl | exact Or.inr rfl) (pe_op op_mod (pe_op ou_add (pe_op ou_add (pe_op ou_mul (pv 3) (pv 3)) (pe_op ou_mul pe_int (pv 3))) pe_int) (pv 2))) (pss_one (ps_set (i := 3) sc.nd rfl (by first | exact Or.inl rfl | exact Or.inr rfl) (pe_op op_mod (pe_op ou_add (pe_op ou_mul (pv 3) (pv 3)) pe_int) (pv 2)))))) pss_nil) (pss_cons (psor (ps_asg (pe_op ou_add (pu_ix hr (pv 0) pe_int (fun _ _ => rfl)) pe_int) (pg_sub (pv 0) pe_int set_list)) (ps_dput (hu_of hr) (pv 0) pe_int (pe_op ou_add (pu_ix hr (pv 0) pe_int (fun _ _ => rfl)) pe_int) rfl)) (pss_one (psor (ps_asg (pv 3) (pg_sub (pv 0) pe_int set_list)) (ps_dput (hu_of hr) (pv 0) pe_int (pv 3) rfl))))))) pss_nil) (pss_cons (ps_set (i := 4) sc.nd rfl (by first | exact Or.inl rfl | exact Or.inr rfl) (pe_op op_mod (pu_ix hr (pv 0) pe_int (fun _ _ => rfl)) (pv 1))) (pss_cons (psor (ps_asg (pe_op op_fdivW (pu_ix hr (pv 0) pe_int (fun _ _ => rfl)) (pv 1)) (pg_sub (pv 0) pe_int set_list)) (ps_dput (hu_of hr) (pv 0) pe_int (pe_op op_fdivW (pu_ix hr (pv 0) pe_int (fun _ _ => rfl)) (pv 1)) rfl)) (pss_one (ps_ret (pv 4)))))))
theorem sc_law_like : FnScope ["one", "two", "k"] ["one", "two"] (defScope (top 21)) := ⟨rfl, rfl, rfl, by decide +kernel, rfl, by decide +kernel, by decide +kernel⟩
theorem s_law_like {P : Program} {w : World} {K : PySem.W.Frag} {mg : Str → Option Value} {base : Heap} {sp spr_law_like : Sp} {k jr_law_like : Nat} (F : Df K mg "_law_like" (top 21)) (f_isinstance : mg "isinstance" = none) (f_bool : mg "bool" = none) (f_tuple : mg "tuple" = none) (f_list : mg "list" = none) (f_len : mg "len" = none) (f_range : mg "range" = none) (hk0 : 0 ≤ k) (hlv_law_like : jr_law_like ≤ k) (c_law_like : Cal P w K mg base jr_law_like "_law_like" ["one", "two"] spr_law_like) (len : ∀ vs H Q E, sp vs H Q E → vs.length = 2) (run : ∀ vs H Q E, sp vs H Q E → t_law_like K spr_law_like { nx := fun _ H' => Q .non H', rt := Q } (L2.start ["one", "two", "k"] vs) H) : Cal P w K mg base (k + 1) "_law_like" ["one", "two"] sp := by
  have sc := sc_law_like
  refine F.cal (k := k) sc (fun _ _ _ _ _ _ us hl => match us, hl with | [_, _], _ => rfl) len run fun f cdv A outer s H E hr => ?_
  exact (pss_cons (ps_if (pt_val (pe_callB cu_isi (by rfl) f_isinstance (by decide +kernel) (pa_cons (pv 0) (pa_cons (pu_tup (pa_cons (pe_bltn (by rfl) f_list (by rfl) rfl) (pa_cons (pe_bltn (by rfl) f_tuple (by rfl) rfl) pa_nil))) pa_nil)))) (pss_cons (ps_if (PW.pt (pw_or (pt_cmpR (ou_ne hr) (pe_callB cu_isi (by rfl) f_isinstance (by decide +kernel) (pa_cons (pv 0) (pa_cons (pe_bltn (by rfl) f_list (by rfl) rfl) pa_nil))) (pe_callB cu_isi (by rfl) f_isinstance (by decide +kernel) (pa_cons (pv 1) (pa_cons (pe_bltn (by rfl) f_list (by rfl) rfl) pa_nil))) (nomark _)) (pw_or1 (pt_cmpR (ou_ne hr) (pe_callB cu_isi (by rfl) f_isinstance (by decide +kernel) (pa_cons (pv 0) (pa_cons (pe_bltn (by rfl) f_tuple (by rfl) rfl) pa_nil))) (pe_callB cu_isi (by rfl) f_isinstance (by decide +kernel) (pa_cons (pv 1) (pa_cons (pe_bltn (by rfl) f_tuple (by rfl) rfl) pa_nil))) (nomark _))))) (pss_one (ps_ret pe_bl)) pss_nil) (pss_cons (ps_if (pt_cmpR (ou_ne hr) (pe_callB cu_len (by rfl) f_len (by decide +kernel) (pa_cons (pv 0) pa_nil)) (pe_callB cu_len (by rfl) f_len (by decide +kernel) (pa_cons (pv 1) pa_nil)) (nomark _)) (pss_one (ps_ret pe_bl)) pss_nil) (pss_one (ps_ret (pe_cmpR (ou_eq hr) (pe_lc (own := [("k", 2)]) rfl sc.nd (pi_range1 (by rfl) f_range (pa_cons (pe_callB cu_len (by rfl) f_len (by decide +kernel) (pa_cons (pv 0) pa_nil)) pa_nil)) (blkOk_by (by kernel_rfl)) (fun _ _ _ _ _ => (pg_name (i := 2) sc.nd rfl (by first | exact Or.inl rfl | exact Or.inr rfl))) (fun _ _ _ _ _ => (pts_one (pt_not (pt_val (pu_call c_law_like hr hlv_law_like (by rfl) (pa_cons (pu_ix hr (pv 0) (pv 2) (fun _ _ => rfl)) (pa_cons (pu_ix hr (pv 1) (pv 2) (fun _ _ => rfl)) pa_nil)) pass0))))) (fun _ _ _ _ _ => (pv 2))) (pe_lst pa_nil) (nomark _)))))) pss_nil) (pss_cons (ps_if (pt_val (pe_callB cu_isi (by rfl) f_isinstance (by decide +kernel) (pa_cons (pv 1) (pa_cons (pu_tup (pa_cons (pe_bltn (by rfl) f_list (by rfl) rfl) (pa_cons (pe_bltn (by rfl) f_tuple (by rfl) rfl) pa_nil))) pa_nil)))) (pss_one (ps_ret pe_bl)) pss_nil) (pss_one (ps_ret (pe_and (pe_cmpR (ou_eq hr) (pe_callB cu_isi (by rfl) f_isinstance (by decide +kernel) (pa_cons (pv 0) (pa_cons (pe_bltn (by rfl) f_bool (by rfl) rfl) pa_nil))) (pe_callB cu_isi (by rfl) f_isinstance (by decide +kernel) (pa_cons (pv 1) (pa_cons (pe_bltn (by rfl) f_bool (by rfl) rfl) pa_nil))) (nomark _)) (pe_one (pe_cmpR (ou_eq hr) (pv 0) (pv 1) (nomark _))))))))
theorem c_law_likeN {P : Program} {w : World} {K : PySem.W.Frag} {mg : Str → Option Value} {base : Heap} (F : Df K mg "_law_like" (top 21)) (f_isinstance : mg "isinstance" = none) (f_bool : mg "bool" = none) (f_tuple : mg "tuple" = none) (f_list : mg "list" = none) (f_len : mg "len" = none) (f_range : mg "range" = none) : ∀ n, Cal P w K mg base (n + 1) "_law_like" ["one", "two"] (sp_law_like K n)
  | 0 => s_law_like F f_isinstance f_bool f_tuple f_list f_len f_range (Nat.zero_le 0) (Nat.zero_le 0) (F.calF sc_law_like (fun _ _ _ _ _ _ us hl => match us, hl with | [_, _], _ => rfl)) (sp_len fun _ => rfl) (run_law_like0 _)
  | n + 1 => s_law_like F f_isinstance f_bool f_tuple f_list f_len f_range (Nat.zero_le _) (Nat.le_refl _) (c_law_likeN F f_isinstance f_bool f_tuple f_list f_len f_range n) (sp_len fun _ => rfl) (run_law_like n)
theorem c_law_like {P : Program} {w : World} {K : PySem.W.Frag} {mg : Str → Option Value} {base : Heap} (F : Df K mg "_law_like" (top 21)) (f_isinstance : mg "isinstance" = none) (f_bool : mg "bool" = none) (f_tuple : mg "tuple" = none) (f_list : mg "list" = none) (f_len : mg "len" = none) (f_range : mg "range" = none) : Cal P w K mg base 9 "_law_like" ["one", "two"] (sp_law_like K 7) := (c_law_likeN F f_isinstance f_bool f_tuple f_list f_len f_range 7).mono (by decide)
theorem sc_law_any_order : FnScope ["tape", "many", "found", "k"] ["tape", "many"] (defScope (top 22)) := ⟨rfl, rfl, rfl, by decide +kernel, rfl, by decide +kernel, by decide +kernel⟩
theorem c_law_any_order {P : Program} {w : World} {K : PySem.W.Frag} {mg : Str → Option Value} {base : Heap} (F : Df K mg "_law_any_order" (top 22)) (c_law_draw : Cal P w K mg base 1 "_law_draw" ["tape", "many"] (sp_law_draw K)) (f_tuple : mg "tuple" = none) (f_range : mg "range" = none) : Cal P w K mg base 2 "_law_any_order" ["tape", "many"] (sp_law_any_order K) := by
  have sc := sc_law_any_order
  refine F.cal (k := 1) (t := t_law_any_order K) sc (fun _ _ _ _ _ _ us hl => match us, hl with | [_, _], _ => rfl) (sp_len fun _ => rfl) run_law_any_order fun f cdv A outer s H E hr => ?_
  exact (pss_cons (ps_set (i := 2) sc.nd rfl (by first | exact Or.inl rfl | exact Or.inr rfl) (pe_lst pa_nil)) (pss_cons (ps_for PassesOwn.never rfl (pi_range1 (by rfl) f_range (pa_cons (pv 1) pa_nil)) (pg_name (i := 3) sc.nd rfl (by first | exact Or.inl rfl | exact Or.inr rfl)) (pss_one (ps_expr (pe_bm PySem.F.plainAttrs_list PySem.F.slot_list_insert PySem.F.type_list_insert mt_insert (pv 2) (pa_cons (pu_call c_law_draw hr (by decide) (by rfl) (pa_cons (pv 0) (pa_cons (pe_op ou_add (pv 3) pe_int) pa_nil)) pass0) (pa_cons (pv 3) pa_nil)))))) (pss_one (ps_ret (pe_callTy cu_tup (by rfl) f_tuple (by decide +kernel) (pa_cons (pv 2) pa_nil))))))
theorem sc_law_common : FnScope ["one", "other"] ["one", "other"] (defScope (top 23)) := ⟨rfl, rfl, rfl, by decide +kernel, rfl, by decide +kernel, by decide +kernel⟩
theorem c_law_common {P : Program} {w : World} {K : PySem.W.Frag} {mg : Str → Option Value} {base : Heap} (F : Df K mg "_law_common" (top 23)) : Cal P w K mg base 1 "_law_common" ["one", "other"] (sp_law_common K) := by
  have sc := sc_law_common
  refine F.cal (k := 0) (t := t_law_common K) sc (fun _ _ _ _ _ _ us hl => match us, hl with | [_, _], _ => rfl) (sp_len fun _ => rfl) run_law_common fun f cdv A outer s H E hr => ?_
  exact (pss_cons (ps_while PassesOwn.never (pt_cmpR (ou_ne hr) (pv 0) pe_int (nomark _)) (pss_one (ps_par rfl sc.nd rfl rfl (by decide) rfl rfl (pa_cons (pe_op op_mod (pv 1) (pv 0)) (pa_cons (pv 0) pa_nil)) (by rfl)))) (pss_one (ps_ret (pv 1))))
theorem sc_law_frac : FnScope ["top", "bottom", "share"] ["top", "bottom"] (defScope (top 24)) := ⟨rfl, rfl, rfl, by decide +kernel, rfl, by decide +kernel, by decide +kernel⟩
theorem c_law_frac {P : Program} {w : World} {K : PySem.W.Frag} {mg : Str → Option Value} {base : Heap} (F : Df K mg "_law_frac" (top 24)) (c_law_common : Cal P w K mg base 1 "_law_common" ["one", "other"] (sp_law_common K)) (f_abs : mg "abs" = none) : Cal P w K mg base 2 "_law_frac" ["top", "bottom"] (sp_law_frac K) := by
  have sc := sc_law_frac
  refine F.cal (k := 1) (t := t_law_frac K) sc (fun _ _ _ _ _ _ us hl => match us, hl with | [_, _], _ => rfl) (sp_len fun _ => rfl) run_law_frac fun f cdv A outer s H E hr => ?_
  exact (pss_cons (ps_set (i := 2) sc.nd rfl (by first | exact Or.inl rfl | exact Or.inr rfl) (pu_call c_law_common hr (by decide) (by rfl) (pa_cons (pe_callB call_abs (by rfl) f_abs (by decide +kernel) (pa_cons (pv 0) pa_nil)) (pa_cons (pv 1) pa_nil)) pass0)) (pss_one (ps_ret (pu_tup (pa_cons (pe_op op_fdivW (pv 0) (pv 2)) (pa_cons (pe_op op_fdivW (pv 1) (pv 2)) pa_nil))))))
theorem sc_law_sum : FnScope ["one", "other"] ["one", "other"] (defScope (top 25)) := ⟨rfl, rfl, rfl, by decide +kernel, rfl, by decide +kernel, by decide +kernel⟩
theorem c_law_sum {P : Program} {w : World} {K : PySem.W.Frag} {mg : Str → Option Value} {base : Heap} (F : Df K mg "_law_sum" (top 25)) (c_law_frac : Cal P w K mg base 2 "_law_frac" ["top", "bottom"] (sp_law_frac K)) : Cal P w K mg base 3 "_law_sum" ["one", "other"] (sp_law_sum K) := by
  have sc := sc_law_sum
  refine F.cal (k := 2) (t := t_law_sum K) sc (fun _ _ _ _ _ _ us hl => match us, hl with | [_, _], _ => rfl) (sp_len fun _ => rfl) run_law_sum fun f cdv A outer s H E hr => ?_
  exact (pss_one (ps_ret (pu_call c_law_frac hr (by decide) (by rfl) (pa_cons (pe_op ou_add (pe_op ou_mul (pu_ix hr (pv 0) pe_int (fun _ _ => rfl)) (pu_ix hr (pv 1) pe_int (fun _ _ => rfl))) (pe_op ou_mul (pu_ix hr (pv 1) pe_int (fun _ _ => rfl)) (pu_ix hr (pv 0) pe_int (fun _ _ => rfl)))) (pa_cons (pe_op ou_mul (pu_ix hr (pv 0) pe_int (fun _ _ => rfl)) (pu_ix hr (pv 1) pe_int (fun _ _ => rfl))) pa_nil)) pass0)))
theorem sc_law_less : FnScope ["one", "other"] ["one", "other"] (defScope (top 26)) := ⟨rfl, rfl, rfl, by decide +kernel, rfl, by decide +kernel, by decide +kernel⟩
theorem c_law_less {P : Program} {w : World} {K : PySem.W.Frag} {mg : Str → Option Value} {base : Heap} (F : Df K mg "_law_less" (top 26)) (c_law_frac : Cal P w K mg base 2 "_law_frac" ["top", "bottom"] (sp_law_frac K)) : Cal P w K mg base 3 "_law_less" ["one", "other"] (sp_law_less K) := by
  have sc := sc_law_less
  refine F.cal (k := 2) (t := t_law_less K) sc (fun _ _ _ _ _ _ us hl => match us, hl with | [_, _], _ => rfl) (sp_len fun _ => rfl) run_law_less fun f cdv A outer s H E hr => ?_
  exact (pss_one (ps_ret (pu_call c_law_frac hr (by decide) (by rfl) (pa_cons (pe_op op_sub (pe_op ou_mul (pu_ix hr (pv 0) pe_int (fun _ _ => rfl)) (pu_ix hr (pv 1) pe_int (fun _ _ => rfl))) (pe_op ou_mul (pu_ix hr (pv 1) pe_int (fun _ _ => rfl)) (pu_ix hr (pv 0) pe_int (fun _ _ => rfl)))) (pa_cons (pe_op ou_mul (pu_ix hr (pv 0) pe_int (fun _ _ => rfl)) (pu_ix hr (pv 1) pe_int (fun _ _ => rfl))) pa_nil)) pass0)))
theorem sc_law_below : FnScope ["one", "other"] ["one", "other"] (defScope (top 27)) := ⟨rfl, rfl, rfl, by decide +kernel, rfl, by decide +kernel, by decide +kernel⟩
theorem c_law_below {P : Program} {w : World} {K : PySem.W.Frag} {mg : Str → Option Value} {base : Heap} (F : Df K mg "_law_below" (top 27)) : Cal P w K mg base 1 "_law_below" ["one", "other"] (sp_law_below K) := by
  have sc := sc_law_below
  refine F.cal (k := 0) (t := t_law_below K) sc (fun _ _ _ _ _ _ us hl => match us, hl with | [_, _], _ => rfl) (sp_len fun _ => rfl) run_law_below fun f cdv A outer s H E hr => ?_
  exact (pss_one (ps_ret (pe_cmpR (ou_lt hr) (pe_op ou_mul (pu_ix hr (pv 0) pe_int (fun _ _ => rfl)) (pu_ix hr (pv 1) pe_int (fun _ _ => rfl))) (pe_op ou_mul (pu_ix hr (pv 1) pe_int (fun _ _ => rfl)) (pu_ix hr (pv 0) pe_int (fun _ _ => rfl))) (nomark _))))
theorem sc_law_round : FnScope ["tape", "guests", "all_can", "many", "some", "at", "sole", "top", "found", "name", "can"] ["tape", "guests", "all_can"] (defScope (top 28)) := ⟨rfl, rfl, rfl, by decide +kernel, rfl, by decide +kernel, by decide +kernel⟩
theorem c_law_round {P : Program} {w : World} {K : PySem.W.Frag} {mg : Str → Option Value} {base : Heap} (F : Df K mg "_law_round" (top 28)) (c_law_draw : Cal P w K mg base 1 "_law_draw" ["tape", "many"] (sp_law_draw K)) (c_law_any_order : Cal P w K mg base 2 "_law_any_order" ["tape", "many"] (sp_law_any_order K)) (f_tuple : mg "tuple" = none) (f_enumerate : mg "enumerate" = none) (f_int : mg "int" = none) (f_len : mg "len" = none) (f_sorted : mg "sorted" = none) (f_min : mg "min" = none) : Cal P w K mg base 3 "_law_round" ["tape", "guests", "all_can"] (sp_law_round K) := by
  have sc := sc_law_round
  refine F.cal (k := 2) (t := t_law_round K) sc (fun _ _ _ _ _ _ us hl => match us, hl with | [_, _, _], _ => rfl) (sp_len fun _ => rfl) run_law_round fun f cdv A outer s H E hr => ?_
  exact (pss_cons (ps_set (i := 3) sc.nd rfl (by first | exact Or.inl rfl | exact Or.inr rfl) (pe_op ou_add pe_int (pu_call c_law_draw hr (by decide) (by rfl) (pa_cons (pv 0) (pa_cons (pe_callB (call_min2 rfl) (by rfl) f_min (by decide +kernel) (pa_cons pe_int (pa_cons (pe_callB cu_len (by rfl) f_len (by decide +kernel) (pa_cons (pv 1) pa_nil)) pa_nil))) pa_nil)) pass0))) (pss_cons (ps_set (i := 4) sc.nd rfl (by first | exact Or.inl rfl | exact Or.inr rfl) (pe_callB (cu_sorted rfl) (by rfl) f_sorted (by decide +kernel) (pa_cons (pe_lc (own := [("at", 5)]) rfl sc.nd (pu_seq (pe_slice su_any (pu_call c_law_any_order hr (by decide) (by rfl) (pa_cons (pv 0) (pa_cons (pe_callB cu_len (by rfl) f_len (by decide +kernel) (pa_cons (pv 1) pa_nil)) pa_nil)) pass0) po_none (po_some (pv 3)))) (blkOk_by (by kernel_rfl)) (fun _ _ _ _ _ => (pg_name (i := 5) sc.nd rfl (by first | exact Or.inl rfl | exact Or.inr rfl))) (fun _ _ _ _ _ => pts_nil) (fun _ _ _ _ _ => (pu_ix hr (pv 1) (pv 5) (fun _ _ => rfl)))) pa_nil))) (pss_cons (ps_par rfl sc.nd rfl rfl (by decide) rfl rfl (pa_cons (pu_call c_law_draw hr (by decide) (by rfl) (pa_cons (pv 0) (pa_cons (pv 3) pa_nil)) pass0) (pa_cons (pu_ix hr (pe_lst (pa_cons pe_int (pa_cons pe_int (pa_cons pe_int pa_nil)))) (pu_call c_law_draw hr (by decide) (by rfl) (pa_cons (pv 0) (pa_cons pe_int pa_nil)) pass0) (fun _ _ => rfl)) pa_nil)) (by rfl)) (pss_cons (ps_set (i := 8) sc.nd rfl (by first | exact Or.inl rfl | exact Or.inr rfl) (pe_lst pa_nil)) (pss_cons (ps_for PassesOwn.never rfl (pu_enum (by rfl) f_enumerate (pa_cons (pv 4) pa_nil)) (pg_tup rfl (pgs_cons (pg_name (i := 5) sc.nd rfl (by first | exact Or.inl rfl | exact Or.inr rfl)) (pgs_cons (pg_name (i := 9) sc.nd rfl (by first | exact Or.inl rfl | exact Or.inr rfl)) pgs_nil))) (pss_cons (ps_set (i := 10) sc.nd rfl (by first | exact Or.inl rfl | exact Or.inr rfl) (pe_ifExp (PW.pt (pw_or (pt_val (pv 2)) (pw_or1 (pt_cmpR (ou_eq hr) (pv 5) (pv 6) (nomark _))))) pe_int (pe_callTy call_int1 (by rfl) f_int (by decide +kernel) (pa_cons (pe_cmpR op_gt (pu_call c_law_draw hr (by decide) (by rfl) (pa_cons (pv 0) (pa_cons pe_int pa_nil)) pass0) pe_int (nomark _)) pa_nil)))) (pss_one (ps_expr (pe_bm PySem.F.plainAttrs_list PySem.F.slot_list_append PySem.F.type_list_append mt_append (pv 8) (pa_cons (pu_tup (pa_cons (pv 9) (pa_cons (pe_op ou_add pe_int (pu_call c_law_draw hr (by decide) (by rfl) (pa_cons (pv 0) (pa_cons (pv 7) pa_nil)) pass0)) (pa_cons (pv 10) pa_nil)))) pa_nil)))))) (pss_one (ps_ret (pe_callTy cu_tup (by rfl) f_tuple (by decide +kernel) (pa_cons (pv 8) pa_nil)))))))))
theorem sc_law_rounds : FnScope ["tape", "most", "guests", "all_can", "k"] ["tape", "most", "guests", "all_can"] (defScope (top 29)) := ⟨rfl, rfl, rfl, by decide +kernel, rfl, by decide +kernel, by decide +kernel⟩
theorem c_law_rounds {P : Program} {w : World} {K : PySem.W.Frag} {mg : Str → Option Value} {base : Heap} (F : Df K mg "_law_rounds" (top 29)) (c_law_draw : Cal P w K mg base 1 "_law_draw" ["tape", "many"] (sp_law_draw K)) (c_law_round : Cal P w K mg base 3 "_law_round" ["tape", "guests", "all_can"] (sp_law_round K)) (f_range : mg "range" = none) (f_tuple : mg "tuple" = none) : Cal P w K mg base 4 "_law_rounds" ["tape", "most", "guests", "all_can"] (sp_law_rounds K) := by
  have sc := sc_law_rounds
  refine F.cal (k := 3) (t := t_law_rounds K) sc (fun _ _ _ _ _ _ us hl => match us, hl with | [_, _, _, _], _ => rfl) (sp_len fun _ => rfl) run_law_rounds fun f cdv A outer s H E hr => ?_
  exact (pss_one (ps_ret (pe_callTy cu_tup (by rfl) f_tuple (by decide +kernel) (pa_cons (pe_lc (own := [("k", 4)]) rfl sc.nd (pi_range1 (by rfl) f_range (pa_cons (pe_op ou_add pe_int (pu_call c_law_draw hr (by decide) (by rfl) (pa_cons (pv 0) (pa_cons (pv 1) pa_nil)) pass0)) pa_nil)) (blkOk_by (by kernel_rfl)) (fun _ _ _ _ _ => (pg_name (i := 4) sc.nd rfl (by first | exact Or.inl rfl | exact Or.inr rfl))) (fun _ _ _ _ _ => pts_nil) (fun _ _ _ _ _ => (pu_call c_law_round hr (by decide) (by rfl) (pa_cons (pv 0) (pa_cons (pv 2) (pa_cons (pv 3) pa_nil))) pass0))) pa_nil))))
theorem sc_law_can : FnScope ["row", "name", "weight", "can"] ["row"] (defScope (top 30)) := ⟨rfl, rfl, rfl, by decide +kernel, rfl, by decide +kernel, by decide +kernel⟩
theorem c_law_can {P : Program} {w : World} {K : PySem.W.Frag} {mg : Str → Option Value} {base : Heap} (F : Df K mg "_law_can" (top 30)) : Cal P w K mg base 1 "_law_can" ["row"] (sp_law_can K) := by
  have sc := sc_law_can
  refine F.cal (k := 0) (t := t_law_can K) sc (fun _ _ _ _ _ _ us hl => match us, hl with | [_], _ => rfl) (sp_len fun _ => rfl) run_law_can fun f cdv A outer s H E hr => ?_
  exact (pss_one (ps_ret (pe_lc (own := [("name", 1), ("weight", 2), ("can", 3)]) rfl sc.nd (pu_seq (pv 0)) (blkOk_by (by kernel_rfl)) (fun _ _ _ _ _ => (pg_tup rfl (pgs_cons (pg_name (i := 1) sc.nd rfl (by first | exact Or.inl rfl | exact Or.inr rfl)) (pgs_cons (pg_name (i := 2) sc.nd rfl (by first | exact Or.inl rfl | exact Or.inr rfl)) (pgs_cons (pg_name (i := 3) sc.nd rfl (by first | exact Or.inl rfl | exact Or.inr rfl)) pgs_nil))))) (fun _ _ _ _ _ => (pts_one (pt_cmpR (ou_eq hr) (pv 3) pe_int (nomark _)))) (fun _ _ _ _ _ => (pv 1)))))
theorem sc_law_payers : FnScope ["tape", "rounds", "most", "found", "row", "some"] ["tape", "rounds", "most"] (defScope (top 31)) := ⟨rfl, rfl, rfl, by decide +kernel, rfl, by decide +kernel, by decide +kernel⟩
theorem c_law_payers {P : Program} {w : World} {K : PySem.W.Frag} {mg : Str → Option Value} {base : Heap} (F : Df K mg "_law_payers" (top 31)) (c_law_draw : Cal P w K mg base 1 "_law_draw" ["tape", "many"] (sp_law_draw K)) (c_law_can : Cal P w K mg base 1 "_law_can" ["row"] (sp_law_can K)) (f_len : mg "len" = none) : Cal P w K mg base 2 "_law_payers" ["tape", "rounds", "most"] (sp_law_payers K) := by
  have sc := sc_law_payers
  refine F.cal (k := 1) (t := t_law_payers K) sc (fun _ _ _ _ _ _ us hl => match us, hl with | [_, _, _], _ => rfl) (sp_len fun _ => rfl) run_law_payers fun f cdv A outer s H E hr => ?_
  exact (pss_cons (ps_set (i := 3) sc.nd rfl (by first | exact Or.inl rfl | exact Or.inr rfl) (pu_tup pa_nil)) (pss_cons (ps_for PassesOwn.never rfl (pu_seq (pe_slice su_any (pv 1) po_none (po_some (pu_call c_law_draw hr (by decide) (by rfl) (pa_cons (pv 0) (pa_cons (pe_op ou_add (pv 2) pe_int) pa_nil)) pass0)))) (pg_name (i := 4) sc.nd rfl (by first | exact Or.inl rfl | exact Or.inr rfl)) (pss_cons (ps_set (i := 5) sc.nd rfl (by first | exact Or.inl rfl | exact Or.inr rfl) (pu_call c_law_can hr (by decide) (by rfl) (pa_cons (pv 4) pa_nil) pass0)) (pss_one (ps_set (i := 3) sc.nd rfl (by first | exact Or.inl rfl | exact Or.inr rfl) (pe_op ou_add (pv 3) (pu_tup (pa_cons (pu_ix hr (pv 5) (pu_call c_law_draw hr (by decide) (by rfl) (pa_cons (pv 0) (pa_cons (pe_callB cu_len (by rfl) f_len (by decide +kernel) (pa_cons (pv 5) pa_nil)) pa_nil)) pass0) (fun _ _ => rfl)) pa_nil))))))) (pss_one (ps_ret (pv 3)))))
theorem sc_law_names : FnScope ["rounds", "found", "row", "name", "weight", "can"] ["rounds"] (defScope (top 32)) := ⟨rfl, rfl, rfl, by decide +kernel, rfl, by decide +kernel, by decide +kernel⟩
theorem c_law_names {P : Program} {w : World} {K : PySem.W.Frag} {mg : Str → Option Value} {base : Heap} (F : Df K mg "_law_names" (top 32)) (f_sorted : mg "sorted" = none) : Cal P w K mg base 1 "_law_names" ["rounds"] (sp_law_names K) := by
  have sc := sc_law_names
  refine F.cal (k := 0) (t := t_law_names K) sc (fun _ _ _ _ _ _ us hl => match us, hl with | [_], _ => rfl) (sp_len fun _ => rfl) run_law_names fun f cdv A outer s H E hr => ?_
  exact (pss_cons (ps_set (i := 1) sc.nd rfl (by first | exact Or.inl rfl | exact Or.inr rfl) (por pe_dnewK pe_dnewT)) (pss_cons (ps_for PassesOwn.never rfl (pu_seq (pv 0)) (pg_name (i := 2) sc.nd rfl (by first | exact Or.inl rfl | exact Or.inr rfl)) (pss_one (ps_for PassesOwn.never rfl (pu_seq (pv 2)) (pg_tup rfl (pgs_cons (pg_name (i := 3) sc.nd rfl (by first | exact Or.inl rfl | exact Or.inr rfl)) (pgs_cons (pg_name (i := 4) sc.nd rfl (by first | exact Or.inl rfl | exact Or.inr rfl)) (pgs_cons (pg_name (i := 5) sc.nd rfl (by first | exact Or.inl rfl | exact Or.inr rfl)) pgs_nil)))) (pss_one (psor (ps_asg pe_bl (pg_sub (pv 1) (pv 3) set_list)) (ps_dput (hu_of hr) (pv 1) (pv 3) pe_bl rfl)))))) (pss_one (ps_ret (pe_callB (cu_sorted rfl) (by rfl) f_sorted (by decide +kernel) (pa_cons (pv 1) pa_nil))))))
theorem sc_law_dues : FnScope ["rounds", "found", "name", "last", "row_so", "row", "mine", "guest", "weight", "can"] ["rounds"] (defScope (top 33)) := ⟨rfl, rfl, rfl, by decide +kernel, rfl, by decide +kernel, by decide +kernel⟩
theorem c_law_dues {P : Program} {w : World} {K : PySem.W.Frag} {mg : Str → Option Value} {base : Heap} (F : Df K mg "_law_dues" (top 33)) (c_law_names : Cal P w K mg base 1 "_law_names" ["rounds"] (sp_law_names K)) (c_law_sum : Cal P w K mg base 3 "_law_sum" ["one", "other"] (sp_law_sum K)) (c_law_frac : Cal P w K mg base 2 "_law_frac" ["top", "bottom"] (sp_law_frac K)) (f_tuple : mg "tuple" = none) (f_sum : mg "sum" = none) : Cal P w K mg base 4 "_law_dues" ["rounds"] (sp_law_dues K) := by
  have sc := sc_law_dues
  refine F.cal (k := 3) (t := t_law_dues K) sc (fun _ _ _ _ _ _ us hl => match us, hl with | [_], _ => rfl) (sp_len fun _ => rfl) run_law_dues fun f cdv A outer s H E hr => ?_
  exact (pss_cons (ps_set (i := 1) sc.nd rfl (by first | exact Or.inl rfl | exact Or.inr rfl) (por pe_dnewK pe_dnewT)) (pss_cons (ps_for PassesOwn.never rfl (pu_seq (pu_call c_law_names hr (by decide) (by rfl) (pa_cons (pv 0) pa_nil) pass0)) (pg_name (i := 2) sc.nd rfl (by first | exact Or.inl rfl | exact Or.inr rfl)) (pss_cons (ps_par rfl sc.nd rfl rfl (by decide) rfl rfl (pa_cons (pu_tup (pa_cons pe_int (pa_cons pe_int pa_nil))) (pa_cons (pe_lst pa_nil) pa_nil)) (by rfl)) (pss_cons (ps_for PassesOwn.never rfl (pu_seq (pv 0)) (pg_name (i := 5) sc.nd rfl (by first | exact Or.inl rfl | exact Or.inr rfl)) (pss_cons (ps_set (i := 6) sc.nd rfl (by first | exact Or.inl rfl | exact Or.inr rfl) (pe_callB (cr_sum rfl) (by rfl) f_sum (by decide +kernel) (pa_cons (pe_lc (own := [("guest", 7), ("weight", 8), ("can", 9)]) rfl sc.nd (pu_seq (pv 5)) (blkOk_by (by kernel_rfl)) (fun _ _ _ _ _ => (pg_tup rfl (pgs_cons (pg_name (i := 7) sc.nd rfl (by first | exact Or.inl rfl | exact Or.inr rfl)) (pgs_cons (pg_name (i := 8) sc.nd rfl (by first | exact Or.inl rfl | exact Or.inr rfl)) (pgs_cons (pg_name (i := 9) sc.nd rfl (by first | exact Or.inl rfl | exact Or.inr rfl)) pgs_nil))))) (fun _ _ _ _ _ => (pts_one (pt_cmpR (ou_eq hr) (pv 7) (pv 2) (nomark _)))) (fun _ _ _ _ _ => (pv 8))) pa_nil))) (pss_cons (ps_set (i := 3) sc.nd rfl (by first | exact Or.inl rfl | exact Or.inr rfl) (pu_call c_law_sum hr (by decide) (by rfl) (pa_cons (pv 3) (pa_cons (pu_call c_law_frac hr (by decide) (by rfl) (pa_cons (pv 6) (pa_cons (pe_callB (cr_sum rfl) (by rfl) f_sum (by decide +kernel) (pa_cons (pe_lc (own := [("guest", 7), ("weight", 8), ("can", 9)]) rfl sc.nd (pu_seq (pv 5)) (blkOk_by (by kernel_rfl)) (fun _ _ _ _ _ => (pg_tup rfl (pgs_cons (pg_name (i := 7) sc.nd rfl (by first | exact Or.inl rfl | exact Or.inr rfl)) (pgs_cons (pg_name (i := 8) sc.nd rfl (by first | exact Or.inl rfl | exact Or.inr rfl)) (pgs_cons (pg_name (i := 9) sc.nd rfl (by first | exact Or.inl rfl | exact Or.inr rfl)) pgs_nil))))) (fun _ _ _ _ _ => pts_nil) (fun _ _ _ _ _ => (pv 8))) pa_nil)) pa_nil)) pass0) pa_nil)) pass0)) (pss_one (ps_expr (pe_bm PySem.F.plainAttrs_list PySem.F.slot_list_append PySem.F.type_list_append mt_append (pv 4) (pa_cons (pv 3) pa_nil))))))) (pss_one (psor (ps_asg (pe_callTy cu_tup (by rfl) f_tuple (by decide +kernel) (pa_cons (pv 4) pa_nil)) (pg_sub (pv 1) (pv 2) set_list)) (ps_dput (hu_of hr) (pv 1) (pv 2) (pe_callTy cu_tup (by rfl) f_tuple (by decide +kernel) (pa_cons (pv 4) pa_nil)) rfl)))))) (pss_one (ps_ret (pv 1)))))
theorem sc_law_gap : FnScope ["dues_so", "place", "counts", "found", "name", "count", "gap"] ["dues_so", "place", "counts"] (defScope (top 34)) := ⟨rfl, rfl, rfl, by decide +kernel, rfl, by decide +kernel, by decide +kernel⟩
theorem c_law_gap {P : Program} {w : World} {K : PySem.W.Frag} {mg : Str → Option Value} {base : Heap} (F : Df K mg "_law_gap" (top 34)) (c_law_below : Cal P w K mg base 1 "_law_below" ["one", "other"] (sp_law_below K)) (c_law_less : Cal P w K mg base 3 "_law_less" ["one", "other"] (sp_law_less K)) (f_sorted : mg "sorted" = none) (f_zip : mg "zip" = none) (f_abs : mg "abs" = none) : Cal P w K mg base 4 "_law_gap" ["dues_so", "place", "counts"] (sp_law_gap K) := by
  have sc := sc_law_gap
  refine F.cal (k := 3) (t := t_law_gap K) sc (fun _ _ _ _ _ _ us hl => match us, hl with | [_, _, _], _ => rfl) (sp_len fun _ => rfl) run_law_gap fun f cdv A outer s H E hr => ?_
  exact (pss_cons (ps_set (i := 3) sc.nd rfl (by first | exact Or.inl rfl | exact Or.inr rfl) (pu_tup (pa_cons pe_int (pa_cons pe_int pa_nil)))) (pss_cons (ps_for PassesOwn.never rfl (pu_zip (by rfl) f_zip (pa_cons (pe_callB (cu_sorted rfl) (by rfl) f_sorted (by decide +kernel) (pa_cons (pv 0) pa_nil)) (pa_cons (pv 2) pa_nil))) (pg_tup rfl (pgs_cons (pg_name (i := 4) sc.nd rfl (by first | exact Or.inl rfl | exact Or.inr rfl)) (pgs_cons (pg_name (i := 5) sc.nd rfl (by first | exact Or.inl rfl | exact Or.inr rfl)) pgs_nil))) (pss_cons (ps_set (i := 6) sc.nd rfl (by first | exact Or.inl rfl | exact Or.inr rfl) (pu_call c_law_less hr (by decide) (by rfl) (pa_cons (pu_ix hr (pu_ix hr (pv 0) (pv 4) (fun _ _ => rfl)) (pv 1) (fun _ _ => rfl)) (pa_cons (pu_tup (pa_cons (pv 5) (pa_cons pe_int pa_nil))) pa_nil)) pass0)) (pss_cons (ps_set (i := 6) sc.nd rfl (by first | exact Or.inl rfl | exact Or.inr rfl) (pu_tup (pa_cons (pe_callB call_abs (by rfl) f_abs (by decide +kernel) (pa_cons (pu_ix hr (pv 6) pe_int (fun _ _ => rfl)) pa_nil)) (pa_cons (pu_ix hr (pv 6) pe_int (fun _ _ => rfl)) pa_nil)))) (pss_one (ps_set (i := 3) sc.nd rfl (by first | exact Or.inl rfl | exact Or.inr rfl) (pe_ifExp (pt_val (pu_call c_law_below hr (by decide) (by rfl) (pa_cons (pv 3) (pa_cons (pv 6) pa_nil)) pass0)) (pv 6) (pv 3))))))) (pss_one (ps_ret (pv 3)))))
theorem sc_law_unfair : FnScope ["rounds", "payers", "dues_so", "found", "place", "counts", "name", "gap"] ["rounds", "payers"] (defScope (top 35)) := ⟨rfl, rfl, rfl, by decide +kernel, rfl, by decide +kernel, by decide +kernel⟩
theorem c_law_unfair {P : Program} {w : World} {K : PySem.W.Frag} {mg : Str → Option Value} {base : Heap} (F : Df K mg "_law_unfair" (top 35)) (c_law_below : Cal P w K mg base 1 "_law_below" ["one", "other"] (sp_law_below K)) (c_law_gap : Cal P w K mg base 4 "_law_gap" ["dues_so", "place", "counts"] (sp_law_gap K)) (c_law_dues : Cal P w K mg base 4 "_law_dues" ["rounds"] (sp_law_dues K)) (f_len : mg "len" = none) (f_range : mg "range" = none) (f_sorted : mg "sorted" = none) : Cal P w K mg base 5 "_law_unfair" ["rounds", "payers"] (sp_law_unfair K) := by
  have sc := sc_law_unfair
  refine F.cal (k := 4) (t := t_law_unfair K) sc (fun _ _ _ _ _ _ us hl => match us, hl with | [_, _], _ => rfl) (sp_len fun _ => rfl) run_law_unfair fun f cdv A outer s H E hr => ?_
  exact (pss_cons (ps_par rfl sc.nd rfl rfl (by decide) rfl rfl (pa_cons (pu_call c_law_dues hr (by decide) (by rfl) (pa_cons (pv 0) pa_nil) pass0) (pa_cons (pu_tup (pa_cons pe_int (pa_cons pe_int pa_nil))) pa_nil)) (by rfl)) (pss_cons (ps_for PassesOwn.never rfl (pi_range1 (by rfl) f_range (pa_cons (pe_callB cu_len (by rfl) f_len (by decide +kernel) (pa_cons (pv 1) pa_nil)) pa_nil)) (pg_name (i := 4) sc.nd rfl (by first | exact Or.inl rfl | exact Or.inr rfl)) (pss_cons (ps_setLc (i := 5) (own := [("name", 6)]) rfl sc.nd rfl rfl (sw_true rfl rfl rfl (by decide +kernel)) (pu_seq (pe_callB (cu_sorted rfl) (by rfl) f_sorted (by decide +kernel) (pa_cons (pv 2) pa_nil))) (blkOk_by (by kernel_rfl)) (fun _ _ _ _ _ => (pg_name (i := 6) sc.nd rfl (by first | exact Or.inl rfl | exact Or.inr rfl))) (fun _ _ _ _ _ => pts_nil) (fun _ _ _ _ _ => (pu_count hr (pe_slice su_any (pv 1) po_none (po_some (pe_op ou_add (pv 4) pe_int))) (pa_cons (pv 6) pa_nil)))) (pss_cons (ps_set (i := 7) sc.nd rfl (by first | exact Or.inl rfl | exact Or.inr rfl) (pu_call c_law_gap hr (by decide) (by rfl) (pa_cons (pv 2) (pa_cons (pv 4) (pa_cons (pv 5) pa_nil))) pass0)) (pss_one (ps_set (i := 3) sc.nd rfl (by first | exact Or.inl rfl | exact Or.inr rfl) (pe_ifExp (pt_val (pu_call c_law_below hr (by decide) (by rfl) (pa_cons (pv 3) (pa_cons (pv 7) pa_nil)) pass0)) (pv 7) (pv 3))))))) (pss_one (ps_ret (pv 3)))))
theorem sc_law : FnScope ["script", "tape", "guests", "turn", "rounds", "due", "name", "payers", "rows", "last", "told", "top", "gap"] ["script"] (defScope (top 36)) := ⟨rfl, rfl, rfl, by decide +kernel, rfl, by decide +kernel, by decide +kernel⟩
theorem ok_law {P : Program} {w : World} {K : PySem.W.Frag} {mg : Str → Option Value} {base : Heap} {f : Addr} {fd : FuncData} (F : FunD K "law" "law" (defArgs (top 36)) (defBody (top 36)) (defScope (top 36)) [] [] f fd) (c_law_sum : Cal P w K mg base 3 "_law_sum" ["one", "other"] (sp_law_sum K)) (c_standing : Cal P w K mg base 5 "standing" ["rounds", "payers"] (sp_standing K)) (c_by_debts : Cal P w K mg base 4 "by_debts" ["rounds"] (sp_by_debts K)) (c_law_payers : Cal P w K mg base 2 "_law_payers" ["tape", "rounds", "most"] (sp_law_payers K)) (c_law_like : Cal P w K mg base 9 "_law_like" ["one", "two"] (sp_law_like K 7)) (c_law_less : Cal P w K mg base 3 "_law_less" ["one", "other"] (sp_law_less K)) (c_law_unfair : Cal P w K mg base 5 "_law_unfair" ["rounds", "payers"] (sp_law_unfair K)) (c_unfairness : Cal P w K mg base 5 "unfairness" ["rounds", "payers"] (sp_unfairness K)) (c_dues : Cal P w K mg base 4 "dues" ["rounds"] (sp_dues K)) (c_law_dues : Cal P w K mg base 4 "_law_dues" ["rounds"] (sp_law_dues K)) (c_law_rounds : Cal P w K mg base 4 "_law_rounds" ["tape", "most", "guests", "all_can"] (sp_law_rounds K)) (c_law_draw : Cal P w K mg base 1 "_law_draw" ["tape", "many"] (sp_law_draw K)) (f_range : mg "range" = none) (f_sorted : mg "sorted" = none) (f_len : mg "len" = none) (f_list : mg "list" = none) : FnOk P w K mg base CX0 10 f fd ["script"] (sp_law K) := by
  have sc := sc_law
  refine fnOkD (k := 9) (t := t_law02 K) F sc (fun vs H Q E ⟨a, ns, e, _⟩ => by rw [e]; rfl) run_law02 fun f cdv A outer s H E hr => ?_
  exact (pss_cons (ps_set (i := 1) sc.nd rfl (by first | exact Or.inl rfl | exact Or.inr rfl) (pe_lst (pa_cons (pe_callTy (cu_list rfl) (by rfl) f_list (by decide +kernel) (pa_cons (pv 0) pa_nil)) (pa_cons pe_int (pa_cons pe_int pa_nil))))) (pss_cons (ps_set (i := 2) sc.nd rfl (by first | exact Or.inl rfl | exact Or.inr rfl) (pe_lst (pa_cons pe_str (pa_cons pe_str (pa_cons pe_str (pa_cons pe_str (pa_cons pe_str (pa_cons pe_str pa_nil)))))))) (pss_cons (ps_for PassesOwn.never rfl (pi_range1 (by rfl) f_range (pa_cons pe_int pa_nil)) (pg_name (i := 3) sc.nd rfl (by first | exact Or.inl rfl | exact Or.inr rfl)) (pss_cons (ps_set (i := 4) sc.nd rfl (by first | exact Or.inl rfl | exact Or.inr rfl) (pu_call c_law_rounds hr (by decide) (by rfl) (pa_cons (pv 1) (pa_cons pe_int (pa_cons (pv 2) (pa_cons (pe_cmpR (ou_eq hr) (pu_call c_law_draw hr (by decide) (by rfl) (pa_cons (pv 1) (pa_cons pe_int pa_nil)) pass0) pe_int (nomark _)) pa_nil)))) pass0)) (pss_cons (ps_set (i := 5) sc.nd rfl (by first | exact Or.inl rfl | exact Or.inr rfl) (pu_call c_law_dues hr (by decide) (by rfl) (pa_cons (pv 4) pa_nil) pass0)) (pss_cons (ps_if (pt_not (pt_val (pu_call c_law_like hr (by decide) (by rfl) (pa_cons (pu_call c_dues hr (by decide) (by rfl) (pa_cons (pv 4) pa_nil) pass0) (pa_cons (pe_lc (own := [("name", 6)]) rfl sc.nd (pu_seq (pe_callB (cu_sorted rfl) (by rfl) f_sorted (by decide +kernel) (pa_cons (pv 5) pa_nil))) (blkOk_by (by kernel_rfl)) (fun _ _ _ _ _ => (pg_name (i := 6) sc.nd rfl (by first | exact Or.inl rfl | exact Or.inr rfl))) (fun _ _ _ _ _ => pts_nil) (fun _ _ _ _ _ => (pu_tup (pa_cons (pv 6) (pa_cons (pu_ix hr (pv 5) (pv 6) (fun _ _ => rfl)) pa_nil))))) pa_nil)) pass0))) (pss_one (ps_ret pe_bl)) pss_nil) (pss_cons (ps_for PassesOwn.never rfl (pu_seq (pe_lst (pa_cons (pu_call c_law_payers hr (by decide) (by rfl) (pa_cons (pv 1) (pa_cons (pv 4) (pa_cons pe_int pa_nil))) pass0) (pa_cons (pu_tup pa_nil) (pa_cons (pu_call c_by_debts hr (by decide) (by rfl) (pa_cons (pv 4) pa_nil) pass0) pa_nil))))) (pg_name (i := 7) sc.nd rfl (by first | exact Or.inl rfl | exact Or.inr rfl)) (pss_cons (ps_if (pt_not (pt_val (pu_call c_law_like hr (by decide) (by rfl) (pa_cons (pu_call c_unfairness hr (by decide) (by rfl) (pa_cons (pv 4) (pa_cons (pv 7) pa_nil)) pass0) (pa_cons (pu_call c_law_unfair hr (by decide) (by rfl) (pa_cons (pv 4) (pa_cons (pv 7) pa_nil)) pass0) pa_nil)) pass0))) (pss_one (ps_ret pe_bl)) pss_nil) (pss_cons (ps_set (i := 8) sc.nd rfl (by first | exact Or.inl rfl | exact Or.inr rfl) (pe_lst pa_nil)) (pss_cons (ps_for PassesOwn.never rfl (pu_seq (pe_callB (cu_sorted rfl) (by rfl) f_sorted (by decide +kernel) (pa_cons (pv 5) pa_nil))) (pg_name (i := 6) sc.nd rfl (by first | exact Or.inl rfl | exact Or.inr rfl)) (pss_cons (ps_set (i := 9) sc.nd rfl (by first | exact Or.inl rfl | exact Or.inr rfl) (pe_ifExp (pt_cmpR (ou_ne hr) (pv 7) (pu_tup pa_nil) (nomark _)) (pu_ix hr (pu_ix hr (pv 5) (pv 6) (fun _ _ => rfl)) (pe_op op_sub (pe_callB cu_len (by rfl) f_len (by decide +kernel) (pa_cons (pv 7) pa_nil)) pe_int) (fun _ _ => rfl)) (pu_tup (pa_cons pe_int (pa_cons pe_int pa_nil))))) (pss_one (ps_expr (pe_bm PySem.F.plainAttrs_list PySem.F.slot_list_append PySem.F.type_list_append mt_append (pv 8) (pa_cons (pu_tup (pa_cons (pv 6) (pa_cons (pu_call c_law_less hr (by decide) (by rfl) (pa_cons (pv 9) (pa_cons (pu_tup (pa_cons (pu_count hr (pv 7) (pa_cons (pv 6) pa_nil)) (pa_cons pe_int pa_nil))) pa_nil)) pass0) pa_nil))) pa_nil)))))) (pss_one (ps_if (pt_not (pt_val (pu_call c_law_like hr (by decide) (by rfl) (pa_cons (pu_call c_standing hr (by decide) (by rfl) (pa_cons (pv 4) (pa_cons (pv 7) pa_nil)) pass0) (pa_cons (pv 8) pa_nil)) pass0))) (pss_one (ps_ret pe_bl)) pss_nil)))))) (pss_cons (ps_set (i := 10) sc.nd rfl (by first | exact Or.inl rfl | exact Or.inr rfl) (pu_call c_standing hr (by decide) (by rfl) (pa_cons (pv 4) (pa_cons (pu_call c_by_debts hr (by decide) (by rfl) (pa_cons (pv 4) pa_nil) pass0) pa_nil)) pass0)) (pss_cons (ps_set (i := 11) sc.nd rfl (by first | exact Or.inl rfl | exact Or.inr rfl) (pu_tup (pa_cons pe_int (pa_cons pe_int pa_nil)))) (pss_cons (ps_for PassesOwn.never rfl (pu_seq (pv 10)) (pg_tup rfl (pgs_cons (pg_name (i := 6) sc.nd rfl (by first | exact Or.inl rfl | exact Or.inr rfl)) (pgs_cons (pg_name (i := 12) sc.nd rfl (by first | exact Or.inl rfl | exact Or.inr rfl)) pgs_nil))) (pss_one (ps_set (i := 11) sc.nd rfl (by first | exact Or.inl rfl | exact Or.inr rfl) (pu_call c_law_sum hr (by decide) (by rfl) (pa_cons (pv 11) (pa_cons (pv 12) pa_nil)) pass0)))) (pss_one (ps_if (pt_cmpR (ou_ne hr) (pv 11) (pu_tup (pa_cons pe_int (pa_cons pe_int pa_nil))) (nomark _)) (pss_one (ps_ret pe_bl)) pss_nil)))))))))) (pss_one (ps_ret pe_bl)))))
def dAt (x : Str) (i : Nat) : He.DefD := ⟨(x, none), x, x, defArgs (top i), defBody (top i), defScope (top i), [], []⟩
def fn : List He.DefD := [dAt "fraction" 2, dAt "plus" 3, dAt "minus" 4, dAt "is_less" 5, dAt "far" 6, dAt "whole" 7, dAt "greater" 8, dAt "names" 10, dAt "part" 11, dAt "due_row" 12, dAt "dues" 13, dAt "who_can" 14, dAt "unfairness" 15, dAt "standing" 16, dAt "by_debts" 18, dAt "_law_draw" 20, dAt "_law_like" 21, dAt "_law_any_order" 22, dAt "_law_common" 23, dAt "_law_frac" 24, dAt "_law_sum" 25, dAt "_law_less" 26, dAt "_law_below" 27, dAt "_law_round" 28, dAt "_law_rounds" 29, dAt "_law_can" 30, dAt "_law_payers" 31, dAt "_law_names" 32, dAt "_law_dues" 33, dAt "_law_gap" 34, dAt "_law_unfair" 35, dAt "law" 36]
def fa : List He.Fa := [.glo "fraction", .glo "plus", .glo "minus", .glo "is_less", .glo "far", .glo "whole", .glo "greater", .glo "names", .glo "part", .glo "due_row", .glo "dues", .glo "who_can", .glo "unfairness", .glo "standing", .glo "by_debts", .glo "_law_draw", .glo "_law_like", .glo "_law_any_order", .glo "_law_common", .glo "_law_frac", .glo "_law_sum", .glo "_law_less", .glo "_law_below", .glo "_law_round", .glo "_law_rounds", .glo "_law_can", .glo "_law_payers", .glo "_law_names", .glo "_law_dues", .glo "_law_gap", .glo "_law_unfair", .glo "law", .glo "NOUGHT", .free "abs", .free "bool", .free "enumerate", .free "int", .free "isinstance", .free "len", .free "list", .free "min", .free "range", .free "sorted", .free "sum", .free "tuple", .free "zip"]
def exB (K : PySem.W.Frag) : Bool := He.tupB K "NOUGHT" [.int 0, .int 1]
abbrev AlN : Type := He.AlD × Bool
def obsN (n : Nat) (g : Addr → Option Obj) : AlN := (He.obsD fa fn (He.frG g (He.asD g n)), exB (He.frG g (He.asD g n)))
structure SaysN (K : PySem.W.Frag) : Prop where
  d : He.SaysD fa fn K
  x : exB K = true
def hkN (n : Nat) : PySem.W.Hook where
  α := AlN
  obs := fun s => obsN n s.heap.get?
  val := fun _ => (He.valD fn, true)
  says := fun _ h => ∃ K : PySem.W.Frag, K.In h ∧ SaysN K
  of := fun _ _ e => ⟨_, He.frG_in, ⟨congrArg (fun z : AlN => z.1) e, congrArg (fun z : AlN => z.2) e⟩⟩
  keeps := fun _ _ _ ⟨K, hK, c⟩ k => ⟨K, PySem.W.Frag.In.keeps hK k, c⟩
abbrev R : PySem.W.OpenRow := PySem.W.OpenLaw.row PySem.Challenge.rw_roundfair_k02_dues_and_gaps_by_hand
abbrev hk : PySem.W.Hook := hkN 4
def ob (s : PySem.W.SharedT) : AlN := obsN 4 (HandSHeadRun.getT s)
theorem ob_eq (s : PySem.W.SharedT) : ob s = hk.obs s.abs := by
  have e : HandSHeadRun.getT s = s.abs.heap.get? := funext (HandSHeadRun.getT_eq s)
  show obsN 4 (HandSHeadRun.getT s) = obsN 4 s.abs.heap.get?
  rw [e]
def loose0 : List PySem.Str := ["fraction", "plus", "minus", "is_less", "far", "whole", "greater", "names", "part", "due_row", "dues", "who_can"]
def loose1 : List PySem.Str := ["unfairness", "standing", "by_debts", "_law_draw", "_law_like", "_law_any_order", "_law_common", "_law_frac", "_law_sum", "_law_less", "_law_below", "_law_round"]
def loose2 : List PySem.Str := ["_law_rounds", "_law_can", "_law_payers", "_law_names", "_law_dues", "_law_gap", "_law_unfair", "NOUGHT"]
def loose : List PySem.Str := loose0 ++ loose1 ++ loose2
theorem run (w : World) : HandSHeadRun.RunEq R (PySem.W.view R.prog [36]) hk ob 2000 loose w := by
  intro os
  kernel_rfl
theorem mkDf {K : PySem.W.Frag} {h : Heap} {mg : Str → Option Value} (X : K.In h) (G : h.Ns mainGlobals mg) (c : He.SaysD fa fn K) (i : Nat) {x : Str} {n : Nat} (hi : fn[i]? = some (dAt x n)) (hj : fa[i]? = some (.glo x)) : Df K mg x (top n) := by
  obtain ⟨fd, F⟩ := c.def_ i hi
  exact ⟨_, fd, F, He.glo_ok X G (c.fact i hj)⟩
theorem facts {P : Program} {w : World} {K : PySem.W.Frag} {h : Heap} {mg : Str → Option Value} {f : Addr} (X : K.In h) (G : h.Ns mainGlobals mg) (hfa : mg ("law" : Str) = some (.ref f)) (c : SaysN K) :
    ∃ fd : FuncData, (∀ (s : Shared) (v : Value), BindsTo s fd ⟨[v], []⟩ [("script", v)]) ∧ ∀ base : Heap, K.In base → base.Ns mainGlobals mg → FnOk P w K mg base CX0 10 f fd ["script"] (sp_law K) := by
  have hn : NoughtOk K := fun I => ⟨_, _, rfl, He.tupB_ok c.x I, _, _, rfl, rfl, _, _, rfl, rfl, rfl⟩
  have f_abs : mg "abs" = none := He.free_ok X G (c.d.fact 33 (f := .free "abs") rfl)
  have f_bool : mg "bool" = none := He.free_ok X G (c.d.fact 34 (f := .free "bool") rfl)
  have f_enumerate : mg "enumerate" = none := He.free_ok X G (c.d.fact 35 (f := .free "enumerate") rfl)
  have f_int : mg "int" = none := He.free_ok X G (c.d.fact 36 (f := .free "int") rfl)
  have f_isinstance : mg "isinstance" = none := He.free_ok X G (c.d.fact 37 (f := .free "isinstance") rfl)
  have f_len : mg "len" = none := He.free_ok X G (c.d.fact 38 (f := .free "len") rfl)
  have f_list : mg "list" = none := He.free_ok X G (c.d.fact 39 (f := .free "list") rfl)
  have f_min : mg "min" = none := He.free_ok X G (c.d.fact 40 (f := .free "min") rfl)
  have f_range : mg "range" = none := He.free_ok X G (c.d.fact 41 (f := .free "range") rfl)
  have f_sorted : mg "sorted" = none := He.free_ok X G (c.d.fact 42 (f := .free "sorted") rfl)
  have f_sum : mg "sum" = none := He.free_ok X G (c.d.fact 43 (f := .free "sum") rfl)
  have f_tuple : mg "tuple" = none := He.free_ok X G (c.d.fact 44 (f := .free "tuple") rfl)
  have f_zip : mg "zip" = none := He.free_ok X G (c.d.fact 45 (f := .free "zip") rfl)
  have g_NOUGHT := He.glo_ok X G (c.d.fact 32 rfl)
  obtain ⟨fd, F⟩ := c.d.def_ 31 (d := dAt "law" 36) rfl
  have e := hfa.symm.trans (He.glo_ok X G (c.d.fact 31 (f := .glo "law") rfl))
  cases e
  have b := FunD.bindsA (ps := ["script"]) F fun _ _ _ _ _ _ us hl => match us, hl with | [_], _ => rfl
  refine ⟨fd, fun s v => b s [v] rfl, fun base _ _ => ?_⟩
  have c_fraction := c_fraction (P := P) (w := w) (base := base) (mkDf X G c.d 0 (x := "fraction") (n := 2) rfl rfl) f_abs
  have c_plus := c_plus (P := P) (w := w) (base := base) (mkDf X G c.d 1 (x := "plus") (n := 3) rfl rfl) c_fraction
  have c_minus := c_minus (P := P) (w := w) (base := base) (mkDf X G c.d 2 (x := "minus") (n := 4) rfl rfl) c_fraction
  have c_is_less := c_is_less (P := P) (w := w) (base := base) (mkDf X G c.d 3 (x := "is_less") (n := 5) rfl rfl) 
  have c_far := c_far (P := P) (w := w) (base := base) (mkDf X G c.d 4 (x := "far") (n := 6) rfl rfl) c_minus f_abs
  have c_whole := c_whole (P := P) (w := w) (base := base) (mkDf X G c.d 5 (x := "whole") (n := 7) rfl rfl) 
  have c_greater := c_greater (P := P) (w := w) (base := base) (mkDf X G c.d 6 (x := "greater") (n := 8) rfl rfl) c_is_less
  have c_names := c_names (P := P) (w := w) (base := base) (mkDf X G c.d 7 (x := "names") (n := 10) rfl rfl) f_sorted
  have c_part := c_part (P := P) (w := w) (base := base) (mkDf X G c.d 8 (x := "part") (n := 11) rfl rfl) c_fraction f_sum g_NOUGHT hn
  have c_due_row := c_due_row (P := P) (w := w) (base := base) (mkDf X G c.d 9 (x := "due_row") (n := 12) rfl rfl) c_plus c_part f_tuple g_NOUGHT hn
  have c_dues := c_dues (P := P) (w := w) (base := base) (mkDf X G c.d 10 (x := "dues") (n := 13) rfl rfl) c_names c_due_row
  have c_who_can := c_who_can (P := P) (w := w) (base := base) (mkDf X G c.d 11 (x := "who_can") (n := 14) rfl rfl) 
  have c_unfairness := c_unfairness (P := P) (w := w) (base := base) (mkDf X G c.d 12 (x := "unfairness") (n := 15) rfl rfl) c_dues c_greater c_far c_whole f_len f_range g_NOUGHT hn
  have c_standing := c_standing (P := P) (w := w) (base := base) (mkDf X G c.d 13 (x := "standing") (n := 16) rfl rfl) c_dues c_minus c_whole f_len g_NOUGHT hn
  have c_by_debts := c_by_debts (P := P) (w := w) (base := base) (mkDf X G c.d 14 (x := "by_debts") (n := 18) rfl rfl) c_who_can c_is_less c_minus c_whole c_due_row f_enumerate
  have c_law_draw := c_law_draw (P := P) (w := w) (base := base) (mkDf X G c.d 15 (x := "_law_draw") (n := 20) rfl rfl) f_len
  have c_law_like := c_law_like (P := P) (w := w) (base := base) (mkDf X G c.d 16 (x := "_law_like") (n := 21) rfl rfl) f_isinstance f_bool f_tuple f_list f_len f_range
  have c_law_any_order := c_law_any_order (P := P) (w := w) (base := base) (mkDf X G c.d 17 (x := "_law_any_order") (n := 22) rfl rfl) c_law_draw f_tuple f_range
  have c_law_common := c_law_common (P := P) (w := w) (base := base) (mkDf X G c.d 18 (x := "_law_common") (n := 23) rfl rfl) 
  have c_law_frac := c_law_frac (P := P) (w := w) (base := base) (mkDf X G c.d 19 (x := "_law_frac") (n := 24) rfl rfl) c_law_common f_abs
  have c_law_sum := c_law_sum (P := P) (w := w) (base := base) (mkDf X G c.d 20 (x := "_law_sum") (n := 25) rfl rfl) c_law_frac
  have c_law_less := c_law_less (P := P) (w := w) (base := base) (mkDf X G c.d 21 (x := "_law_less") (n := 26) rfl rfl) c_law_frac
  have c_law_below := c_law_below (P := P) (w := w) (base := base) (mkDf X G c.d 22 (x := "_law_below") (n := 27) rfl rfl) 
  have c_law_round := c_law_round (P := P) (w := w) (base := base) (mkDf X G c.d 23 (x := "_law_round") (n := 28) rfl rfl) c_law_draw c_law_any_order f_tuple f_enumerate f_int f_len f_sorted f_min
  have c_law_rounds := c_law_rounds (P := P) (w := w) (base := base) (mkDf X G c.d 24 (x := "_law_rounds") (n := 29) rfl rfl) c_law_draw c_law_round f_range f_tuple
  have c_law_can := c_law_can (P := P) (w := w) (base := base) (mkDf X G c.d 25 (x := "_law_can") (n := 30) rfl rfl) 
  have c_law_payers := c_law_payers (P := P) (w := w) (base := base) (mkDf X G c.d 26 (x := "_law_payers") (n := 31) rfl rfl) c_law_draw c_law_can f_len
  have c_law_names := c_law_names (P := P) (w := w) (base := base) (mkDf X G c.d 27 (x := "_law_names") (n := 32) rfl rfl) f_sorted
  have c_law_dues := c_law_dues (P := P) (w := w) (base := base) (mkDf X G c.d 28 (x := "_law_dues") (n := 33) rfl rfl) c_law_names c_law_sum c_law_frac f_tuple f_sum
  have c_law_gap := c_law_gap (P := P) (w := w) (base := base) (mkDf X G c.d 29 (x := "_law_gap") (n := 34) rfl rfl) c_law_below c_law_less f_sorted f_zip f_abs
  have c_law_unfair := c_law_unfair (P := P) (w := w) (base := base) (mkDf X G c.d 30 (x := "_law_unfair") (n := 35) rfl rfl) c_law_below c_law_gap c_law_dues f_len f_range f_sorted
  exact ok_law F c_law_sum c_standing c_by_debts c_law_payers c_law_like c_law_less c_law_unfair c_unfairness c_dues c_law_dues c_law_rounds c_law_draw f_range f_sorted f_len f_list
end RF
open PySem PySem.W PySem.Calls PyProof.Rows
theorem PySem.Challenge.cw_roundfair_k02_dues_and_gaps_by_hand_holds : PySem.Challenge.rw_roundfair_k02_dues_and_gaps_by_hand.Holds := by
  w_on; o_law
  refine HandSHeadRun.head_any (r := OpenLaw.row PySem.Challenge.rw_roundfair_k02_dues_and_gaps_by_hand) (q := view (OpenLaw.row PySem.Challenge.rw_roundfair_k02_dues_and_gaps_by_hand).prog [36]) (H := RF.hk) (ob := RF.ob) (M := 2000) (loose := RF.loose) (d := HandSHeadRun.topDef (OpenLaw.row PySem.Challenge.rw_roundfair_k02_dues_and_gaps_by_hand).prog 36) (kwd := []) RF.ob_eq
    (by kernel_rfl) (fun s => by kernel_rfl) RF.run (by kernel_rfl) (by kernel_rfl) (by kernel_rfl) (by rfl) (by first | assumption | decide +kernel) (by decide +kernel) ⟨rfl, rfl, rfl, rfl, rfl, by decide +kernel⟩ ?hw ?hc
  case hw => w_witness2
  case hc =>
    refine L2.walk_ofE (l := PySem.Challenge.rw_roundfair_k02_dues_and_gaps_by_hand) (n := 63) (k := 10) (x := "script") (CX := L2.CX0) rfl (by decide) (by kernel_rfl) ⟨rfl, by decide, by decide⟩ ?F (fun _ _ _ _ z => z)
    intro w mg fa h Y G hmg0
    obtain ⟨K, KX, c⟩ := Y
    have hmg : mg ("law" : PySem.Str) = some (.ref fa) := by
      have e : (HandSHeadRun.topDef (OpenLaw.row PySem.Challenge.rw_roundfair_k02_dues_and_gaps_by_hand).prog 36).name = ("law" : PySem.Str) := by kernel_rfl
      rw [← e]
      exact hmg0
    obtain ⟨fd, hb, hF⟩ := RF.facts (P := (PySem.Challenge.rw_roundfair_k02_dues_and_gaps_by_hand).prog) (w := w) KX G hmg c
    exact ⟨K, fd, RF.sp_law K, KX, hb, fun H a ns hl hO hS => ⟨a, ns, rfl, hl, hO, hS, fun _ => rfl⟩, hF⟩
