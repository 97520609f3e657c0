import PyProof.Rows.All
import Wide.All
import OpenK.AllK
import Wide.FinOn
import KE.KStateDown
import HandS.ForMost
import HandS.Defaults
import HandS.More
import HandS.Flow
import HandS.Wide
import HandS.TupAny
import HandS.TupMul
import HandS.Zip
import HandS.Conv
import HandS.DictComp
import HandS.DictTup
import HandS.IsInst
import HandS.WordsExc
import HandS.Head0
import HandS.Head1
import HandS.Head2
import HandS.HeadEnd
import HandS.HeadHook1
import HandS.HeadHook2
import KE.DataFind
import KE.GoesMore
import KE.GoesEnum
import KE.GoesZip
import KE.KDictWalk
import HandS.TupLen
import KE.KDictKeyed
import HandS.Style
import KE.KRevSl
import KE.KDictDisplayH
import PySem.Challenge.RW_roundfair_k03_payments_that_fit_or_are_d
set_option Elab.async false
set_option linter.all false
set_option maxRecDepth 100000
set_option maxHeartbeats 4000000
set_option autoImplicit false
/-! Data, worlds, and a small logic of evaluation over the hand layer's readings. -/
namespace RF
open PySem L2

/-- plain data -/
inductive D where
  | non
  | bl (b : Bool)
  | int (i : Int)
  | str (s : Str)
  | lst (xs : List D)
  | tup (xs : List D)
  /-- a tuple of ints and texts that may be a dict's key -/
  | tk (ks : List Key)
  /-- a tuple of texts whose object is known to have no dict of its own -/
  | tf (ss : List Str)
  /-- a list of ints that is not the module's -/
  | li (ns : List Int)
  /-- a thing that may be changed: where it lies, nothing more -/
  | mref (a : Addr)
  | dk (kvs : List (Key × D))
  | dt (kvs : List (List Key × D))
  /-- a dict that is held fast -/
  | fk (kvs : List (Key × D))
  | ft (kvs : List (List Key × D))

mutual
/-- the value v stands for the datum, by what I holds -/
def Rp (K : PySem.W.Frag) (I : Hp) : D → V → Prop
  | .non, v => v = .non
  | .bl b, v => v = .bl b
  | .int i, v => v = .int i
  | .str s, v => v = .str s
  | .lst ds, v => ∃ a xs, v = .ref a ∧ SqL K I a xs ∧ RpL K I ds xs
  | .tup ds, v => ∃ a xs, v = .ref a ∧ SqT K I a xs ∧ RpL K I ds xs
  | .tk ks, v => ∃ a, v = .ref a ∧ I a = some (.tup (ks.map kV))
  | .tf ss, v => ∃ a o, v = .ref a ∧ I a = some (.frz o (.tup (ss.map V.str))) ∧ o.dict = none
  | .mref a, v => v = .ref a
  | .li ns, v => ∃ a, v = .ref a ∧ Rd I a (.lst (ns.map V.int))
  | .dk kvs, v => ∃ a es, v = .ref a ∧ Rd I a (.dK es) ∧ RpK K I kvs es
  | .dt kvs, v => ∃ a es, v = .ref a ∧ Rd I a (.dT es) ∧ RpT K I kvs es
  | .fk kvs, v => ∃ a o es, v = .ref a ∧ I a = some (.frz o (.dK es)) ∧ RpK K I kvs es
  | .ft kvs, v => ∃ a o es, v = .ref a ∧ I a = some (.frz o (.dT es)) ∧ RpT K I kvs es
def RpL (K : PySem.W.Frag) (I : Hp) : List D → List V → Prop
  | [], xs => xs = []
  | d :: ds, xs => ∃ x r, xs = x :: r ∧ Rp K I d x ∧ RpL K I ds r
def RpK (K : PySem.W.Frag) (I : Hp) : List (Key × D) → List (Key × V) → Prop
  | [], es => es = []
  | (k, d) :: r, es => ∃ v s, es = (k, v) :: s ∧ Rp K I d v ∧ RpK K I r s
def RpT (K : PySem.W.Frag) (I : Hp) : List (List Key × D) → List (List Key × V) → Prop
  | [], es => es = []
  | (k, d) :: r, es => ∃ v s, es = (k, v) :: s ∧ Rp K I d v ∧ RpT K I r s
end

section
variable {K : PySem.W.Frag} {I J : Hp}
/-- what may be read stays readable -/
def Keeps (I J : Hp) : Prop := (∀ a xs, Rd I a (.lst xs) → Rd J a (.lst xs)) ∧ (∀ a xs, Rd I a (.tup xs) → Rd J a (.tup xs)) ∧ (∀ a xs, Rd I a (.dK xs) → Rd J a (.dK xs)) ∧ (∀ a xs, Rd I a (.dT xs) → Rd J a (.dT xs)) ∧ (∀ a xs, I a = some (.tup xs) → J a = some (.tup xs)) ∧ (∀ a o xs, I a = some (.frz o (.tup xs)) → J a = some (.frz o (.tup xs))) ∧ (∀ a o xs, I a = some (.frz o (.dK xs)) → J a = some (.frz o (.dK xs))) ∧ (∀ a o xs, I a = some (.frz o (.dT xs)) → J a = some (.frz o (.dT xs)))
theorem rd_same {a : Addr} {u : HO} (h : Same I J) (r : Rd I a u) : Rd J a u := by
  rcases r with r | ⟨o, r⟩
  · exact .inl (h _ _ r)
  · exact .inr ⟨o, h _ _ r⟩
theorem Keeps.of_same (h : Same I J) : Keeps I J := ⟨fun _ _ => rd_same h, fun _ _ => rd_same h, fun _ _ => rd_same h, fun _ _ => rd_same h, fun a xs e => h a _ e, fun a o xs e => h a _ e, fun a o xs e => h a _ e, fun a o xs e => h a _ e⟩
theorem sqL_keeps (h : Keeps I J) {a : Addr} {xs : List V} (r : SqL K I a xs) : SqL K J a xs := by
  rcases r with r | r
  · exact .inl (h.1 _ _ r)
  · exact .inr r
theorem sqT_keeps (h : Keeps I J) {a : Addr} {xs : List V} (r : SqT K I a xs) : SqT K J a xs := by
  rcases r with r | r
  · exact .inl (h.2.1 _ _ r)
  · exact .inr r
mutual
theorem Rp.keeps (h : Keeps I J) : ∀ {d : D} {v : V}, Rp K I d v → Rp K J d v
  | .non, _, r => r
  | .bl _, _, r => r
  | .int _, _, r => r
  | .str _, _, r => r
  | .lst ds, _, ⟨a, xs, e, s, r⟩ => ⟨a, xs, e, sqL_keeps h s, RpL.keeps h r⟩
  | .tup ds, _, ⟨a, xs, e, s, r⟩ => ⟨a, xs, e, sqT_keeps h s, RpL.keeps h r⟩
  | .tk ks, _, ⟨a, e, s⟩ => ⟨a, e, h.2.2.2.2.1 _ _ s⟩
  | .tf ss, _, ⟨a, o, e, s, r⟩ => ⟨a, o, e, h.2.2.2.2.2.1 _ _ _ s, r⟩
  | .mref _, _, r => r
  | .li ns, _, ⟨a, e, s⟩ => ⟨a, e, h.1 _ _ s⟩
  | .dk ds, _, ⟨a, xs, e, s, r⟩ => ⟨a, xs, e, h.2.2.1 _ _ s, RpK.keeps h r⟩
  | .dt ds, _, ⟨a, xs, e, s, r⟩ => ⟨a, xs, e, h.2.2.2.1 _ _ s, RpT.keeps h r⟩
  | .fk ds, _, ⟨a, o, xs, e, s, r⟩ => ⟨a, o, xs, e, h.2.2.2.2.2.2.1 _ _ _ s, RpK.keeps h r⟩
  | .ft ds, _, ⟨a, o, xs, e, s, r⟩ => ⟨a, o, xs, e, h.2.2.2.2.2.2.2 _ _ _ s, RpT.keeps h r⟩
theorem RpL.keeps (h : Keeps I J) : ∀ {ds : List D} {vs : List V}, RpL K I ds vs → RpL K J ds vs
  | [], _, r => r
  | d :: ds, _, ⟨x, t, e, r, q⟩ => ⟨x, t, e, Rp.keeps h r, RpL.keeps h q⟩
theorem RpK.keeps (h : Keeps I J) : ∀ {ds : List (Key × D)} {vs : List (Key × V)}, RpK K I ds vs → RpK K J ds vs
  | [], _, r => r
  | (k, d) :: ds, _, ⟨x, t, e, r, q⟩ => ⟨x, t, e, Rp.keeps h r, RpK.keeps h q⟩
theorem RpT.keeps (h : Keeps I J) : ∀ {ds : List (List Key × D)} {vs : List (List Key × V)}, RpT K I ds vs → RpT K J ds vs
  | [], _, r => r
  | (k, d) :: ds, _, ⟨x, t, e, r, q⟩ => ⟨x, t, e, Rp.keeps h r, RpT.keeps h q⟩
end
theorem Rp.mono (h : Same I J) {d : D} {v : V} (r : Rp K I d v) : Rp K J d v := r.keeps (.of_same h)
theorem RpL.mono (h : Same I J) {d : List D} {v : List V} (r : RpL K I d v) : RpL K J d v := r.keeps (.of_same h)
theorem RpL.length : ∀ {ds : List D} {vs : List V}, RpL K I ds vs → vs.length = ds.length
  | [], _, r => by rw [show _ = [] from r]; rfl
  | d :: ds, _, ⟨x, t, e, r, q⟩ => by rw [e, List.length_cons, List.length_cons, RpL.length q]
theorem RpL.get : ∀ {ds : List D} {vs : List V} {i : Nat} {d : D}, RpL K I ds vs → ds[i]? = some d → ∃ v, vs[i]? = some v ∧ Rp K I d v
  | [], _, i, d, r, h => by simp at h
  | d :: ds, _, 0, _, ⟨x, t, e, r, q⟩, h => by
    subst e
    have h' : d = _ := Option.some.inj h
    subst h'
    exact ⟨x, rfl, r⟩
  | d :: ds, _, i + 1, _, ⟨x, t, e, r, q⟩, h => by
    subst e
    exact RpL.get (i := i) q h
theorem RpL.getV : ∀ {ds : List D} {vs : List V} {i : Nat} {v : V}, RpL K I ds vs → vs[i]? = some v → ∃ d, ds[i]? = some d ∧ Rp K I d v
  | [], _, i, d, r, h => by rw [show _ = [] from r] at h; simp at h
  | d :: ds, _, 0, _, ⟨x, t, e, r, q⟩, h => by
    subst e
    have h' : x = _ := Option.some.inj h
    subst h'
    exact ⟨d, rfl, r⟩
  | d :: ds, _, i + 1, _, ⟨x, t, e, r, q⟩, h => by
    subst e
    exact RpL.getV (i := i) q h
theorem RpL.append : ∀ {ds es : List D} {vs us : List V}, RpL K I ds vs → RpL K I es us → RpL K I (ds ++ es) (vs ++ us)
  | [], _, _, _, r, q => by rw [show _ = [] from r]; exact q
  | d :: ds, _, _, _, ⟨x, t, e, r, q⟩, s => ⟨x, _, by rw [e]; rfl, r, RpL.append q s⟩
theorem RpL.one {d : D} {v : V} (h : Rp K I d v) : RpL K I [d] [v] := ⟨v, [], rfl, h, rfl⟩
theorem RpL.snoc {ds : List D} {vs : List V} {d : D} {v : V} (r : RpL K I ds vs) (h : Rp K I d v) : RpL K I (ds ++ [d]) (vs ++ [v]) := r.append (.one h)
theorem RpL.take : ∀ {ds : List D} {vs : List V} (n : Nat), RpL K I ds vs → RpL K I (ds.take n) (vs.take n)
  | [], _, n, r => by rw [show _ = [] from r]; cases n <;> exact rfl
  | d :: ds, _, 0, r => rfl
  | d :: ds, _, n + 1, ⟨x, t, e, r, q⟩ => ⟨x, _, by rw [e]; rfl, r, RpL.take n q⟩
theorem RpL.drop : ∀ {ds : List D} {vs : List V} (n : Nat), RpL K I ds vs → RpL K I (ds.drop n) (vs.drop n)
  | [], _, n, r => by rw [show _ = [] from r]; cases n <;> exact rfl
  | d :: ds, _, 0, r => r
  | d :: ds, _, n + 1, ⟨x, t, e, r, q⟩ => by rw [e]; exact RpL.drop n q
theorem RpL.set {d : D} {v : V} (h : Rp K I d v) : ∀ {ds : List D} {vs : List V} (n : Nat), RpL K I ds vs → RpL K I (ds.set n d) (vs.set n v)
  | [], _, n, r => by rw [show _ = [] from r]; exact rfl
  | _ :: ds, _, 0, ⟨x, t, e, r, q⟩ => ⟨v, t, by rw [e]; rfl, h, q⟩
  | _ :: ds, _, n + 1, ⟨x, t, e, r, q⟩ => ⟨x, _, by rw [e]; rfl, r, RpL.set h n q⟩
theorem RpL.ints : ∀ {ns : List Int} {vs : List V}, RpL K I (ns.map D.int) vs → vs = ns.map V.int
  | [], _, r => r
  | n :: ns, _, ⟨x, t, e, r, q⟩ => by rw [e, show x = .int n from r, RpL.ints q]; rfl
theorem RpL.strs : ∀ {ns : List Str} {vs : List V}, RpL K I (ns.map D.str) vs → vs = ns.map V.str
  | [], _, r => r
  | n :: ns, _, ⟨x, t, e, r, q⟩ => by rw [e, show x = .str n from r, RpL.strs q]; rfl
theorem RpL.bls : ∀ {ns : List Bool} {vs : List V}, RpL K I (ns.map D.bl) vs → vs = ns.map V.bl
  | [], _, r => r
  | n :: ns, _, ⟨x, t, e, r, q⟩ => by rw [e, show x = .bl n from r, RpL.bls q]; rfl
theorem RpL.of_ints : ∀ (ns : List Int), RpL K I (ns.map D.int) (ns.map V.int)
  | [] => rfl
  | n :: ns => ⟨_, _, rfl, rfl, RpL.of_ints ns⟩
theorem RpL.of_strs : ∀ (ns : List Str), RpL K I (ns.map D.str) (ns.map V.str)
  | [] => rfl
  | n :: ns => ⟨_, _, rfl, rfl, RpL.of_strs ns⟩
/-- a key as a datum -/
def kD : Key → D
  | .inl i => .int i
  | .inr s => .str s
theorem kD_rp (k : Key) : Rp K I (kD k) (kV k) := by cases k <;> exact rfl
theorem kDs_rp : ∀ ks : List Key, RpL K I (ks.map kD) (ks.map kV)
  | [] => rfl
  | k :: ks => ⟨_, _, rfl, kD_rp k, kDs_rp ks⟩
/-- such a tuple is a tuple -/
theorem tk_tup {ks : List Key} {v : V} (h : Rp K I (.tk ks) v) : Rp K I (.tup (ks.map kD)) v := by
  obtain ⟨a, e, s⟩ := h
  exact ⟨a, _, e, .inl (.inl s), kDs_rp ks⟩
theorem tf_tup {ss : List Str} {v : V} (h : Rp K I (.tf ss) v) : Rp K I (.tup (ss.map D.str)) v := by
  obtain ⟨a, o, e, s, _⟩ := h
  exact ⟨a, _, e, .inl (.inr ⟨o, s⟩), RpL.of_strs ss⟩
theorem fk_dk {kvs : List (Key × D)} {v : V} (h : Rp K I (.fk kvs) v) : Rp K I (.dk kvs) v := by
  obtain ⟨a, o, es, e, s, r⟩ := h
  exact ⟨a, es, e, .inr ⟨o, s⟩, r⟩
theorem ft_dt {kvs : List (List Key × D)} {v : V} (h : Rp K I (.ft kvs) v) : Rp K I (.dt kvs) v := by
  obtain ⟨a, o, es, e, s, r⟩ := h
  exact ⟨a, es, e, .inr ⟨o, s⟩, r⟩
theorem li_lst {ns : List Int} {v : V} (h : Rp K I (.li ns) v) : Rp K I (.lst (ns.map D.int)) v := by
  obtain ⟨a, e, s⟩ := h
  exact ⟨a, _, e, .inl s, RpL.of_ints ns⟩
end
end RF

set_option Elab.async false
set_option linter.all false
set_option maxRecDepth 100000
set_option maxHeartbeats 4000000
set_option autoImplicit false
namespace RF
open PySem L2

/-! ### worlds -/
/-- I: what nobody changes; H: the whole heap; tp: the tape that the draws change; lk: whether some dict may be locked -/
structure Wd where
  I : Hp
  H : Hp
  tp : Option Addr
  lk : Bool
def TapeAt (w : Wd) (a : Addr) : Prop := w.I a = none ∧ ∃ (b : Addr) (p c : Int) (ns : List Int), w.H a = some (.lst [.ref b, .int p, .int c]) ∧ Rd w.I b (.lst (ns.map V.int)) ∧ 0 ≤ p ∧ ns.length ≤ 1000
def NoLock (_ : Hp) : Prop := True
structure Wd.Ok (w : Wd) : Prop where
  sub : Same w.I w.H
  tape : ∀ a, w.tp = some a → TapeAt w a
  nolk : w.lk = false → NoLock w.H
  tups : ∀ a xs, w.H a = some (.tup xs) → w.I a = some (.tup xs)
structure Wd.le (w w' : Wd) : Prop where
  tp : w'.tp = w.tp
  lk : w'.lk = w.lk
  I : Same w.I w'.I
  H : ∀ a o, w.H a = some o → w.tp ≠ some a → w'.H a = some o
  fr : ∀ a, w.I a = none → w.H a ≠ none → w'.I a = none
  dom : ∀ a, w'.H a = none → w.H a = none
theorem Wd.le.refl (w : Wd) : w.le w := ⟨rfl, rfl, fun _ _ h => h, fun _ _ h _ => h, fun _ h _ => h, fun _ h => h⟩
theorem Wd.le.trans {a b c : Wd} (h : a.le b) (k : b.le c) : a.le c where
  tp := k.tp.trans h.tp
  lk := k.lk.trans h.lk
  I := h.I.trans k.I
  H := fun x o e n => k.H x o (h.H x o e n) (by rw [h.tp]; exact n)
  fr := fun x e n => k.fr x (h.fr x e n) fun z => n (h.dom x z)
  dom := fun x e => h.dom x (k.dom x e)
/-- a new thing that nobody will change -/
def Wd.new (w : Wd) (p : Addr) (o : HO) : Wd := { w with I := upd w.I p o, H := upd w.H p o }
/-- a thing that is the frame's own is changed or made -/
def Wd.put (w : Wd) (p : Addr) (o : HO) : Wd := { w with H := upd w.H p o }
/-- the frame's own thing is given up: nobody will change it -/
def Wd.fix (w : Wd) (p : Addr) (o : HO) : Wd := { w with I := upd w.I p o }
theorem notI {w : Wd} (ok : w.Ok) {p : Addr} (h : w.H p = none) : w.I p = none := ok.sub.free h
theorem not_tape {w : Wd} (ok : w.Ok) {p : Addr} (h : w.H p = none) : w.tp ≠ some p := fun e => by
  obtain ⟨_, b, x, c, ns, z, _⟩ := ok.tape p e
  rw [h] at z
  cases z
def plainO : HO → Prop
  | .frz _ (.dK _) => False
  | .frz _ (.dT _) => False
  | _ => True
/-- what may be changed -/
def plainP : HO → Prop
  | .lst _ => True
  | .dK _ => True
  | .dT _ => True
  | .ext _ => True
  | _ => False
theorem plainP.o {o : HO} (h : plainP o) : plainO o := by cases o <;> first | exact True.intro | exact h.elim
theorem plainP.nt {o : HO} (h : plainP o) {xs : List V} : o ≠ .tup xs := fun e => by rw [e] at h; exact h
theorem NoLock.upd {H : Hp} (n : NoLock H) {p : Addr} {o : HO} (h : plainO o) : NoLock (upd H p o) := True.intro
theorem same_new {H : Hp} {p : Addr} {o : HO} (h : H p = none) : Same H (upd H p o) := fun a u e => by rw [upd_ne (ne_of_none e h)]; exact e
theorem TapeAt.mono {w w' : Wd} {a : Addr} (t : TapeAt w a) (h1 : Same w.I w'.I) (h2 : w'.I a = none) (h3 : w'.H a = w.H a) : TapeAt w' a := by
  obtain ⟨_, b, p, c, ns, e1, e2, e3, e4⟩ := t
  exact ⟨h2, b, p, c, ns, h3.trans e1, rd_same h1 e2, e3, e4⟩
theorem Wd.new_ok {w : Wd} (ok : w.Ok) {p : Addr} {o : HO} (h : w.H p = none) (ho : plainO o) : (w.new p o).Ok where
  sub := fun a u e => by
    show upd w.H p o a = some u
    have e : upd w.I p o a = some u := e
    by_cases z : a = p
    · subst z; rw [upd_same] at e ⊢; exact e
    · rw [upd_ne z] at e ⊢; exact ok.sub _ _ e
  tape := fun a e => by
    have ne : a ≠ p := fun z => not_tape ok h (by rw [← z]; exact e)
    exact (ok.tape a e).mono (same_new (notI ok h)) (by show upd w.I p o a = none; rw [upd_ne ne]; exact (ok.tape a e).1) (by show upd w.H p o a = _; rw [upd_ne ne])
  nolk := fun e => (ok.nolk e).upd ho
  tups := fun a xs e => by
    have e : upd w.H p o a = some (.tup xs) := e
    show upd w.I p o a = some (.tup xs)
    by_cases z : a = p
    · subst z; rw [upd_same] at e ⊢; exact e
    · rw [upd_ne z] at e ⊢; exact ok.tups a xs e
theorem Wd.new_le {w : Wd} (ok : w.Ok) {p : Addr} {o : HO} (h : w.H p = none) : w.le (w.new p o) where
  tp := rfl
  lk := rfl
  I := same_new (notI ok h)
  H := fun a u e _ => same_new h a u e
  fr := fun a e n => by
    show upd w.I p o a = none
    rw [upd_ne fun z => n (by rw [z]; exact h)]
    exact e
  dom := fun a e => by
    have e : upd w.H p o a = none := e
    by_cases z : a = p
    · subst z; exact h
    · rw [upd_ne z] at e; exact e
theorem Wd.put_ok {w : Wd} (ok : w.Ok) {p : Addr} {o : HO} (h : w.I p = none) (ht : w.tp ≠ some p) (ho : plainP o) : (w.put p o).Ok where
  sub := fun a u e => by
    show upd w.H p o a = some u
    rw [upd_ne (ne_of_none e h)]
    exact ok.sub _ _ e
  tape := fun a e => (ok.tape a e).mono (fun _ _ z => z) (ok.tape a e).1 (by show upd w.H p o a = _; rw [upd_ne fun z => ht (by rw [← z]; exact e)])
  nolk := fun e => (ok.nolk e).upd ho.o
  tups := fun a xs e => by
    have e : upd w.H p o a = some (.tup xs) := e
    by_cases z : a = p
    · subst z; rw [upd_same] at e; exact absurd (Option.some.inj e) ho.nt
    · rw [upd_ne z] at e; exact ok.tups a xs e
/-- seen from where the thing was not -/
theorem Wd.le_put {w0 w : Wd} (l : w0.le w) {p : Addr} {o : HO} (h : w0.H p = none) : w0.le (w.put p o) where
  tp := l.tp
  lk := l.lk
  I := l.I
  H := fun a u e n => by
    show upd w.H p o a = some u
    rw [upd_ne (ne_of_none e h)]
    exact l.H a u e n
  fr := l.fr
  dom := fun a e => by
    have e : upd w.H p o a = none := e
    by_cases z : a = p
    · subst z; exact h
    · rw [upd_ne z] at e; exact l.dom a e
theorem Wd.le_fix {w0 w : Wd} (l : w0.le w) {p : Addr} {o : HO} (h : w0.H p = none) (hi : w.I p = none) : w0.le (w.fix p o) where
  tp := l.tp
  lk := l.lk
  I := l.I.trans (same_new hi)
  H := l.H
  fr := fun a e n => by
    show upd w.I p o a = none
    rw [upd_ne fun z => n (by rw [z]; exact h)]
    exact l.fr a e n
  dom := l.dom
theorem Wd.fix_ok {w : Wd} (ok : w.Ok) {p : Addr} {o : HO} (hi : w.I p = none) (hH : w.H p = some o) (ht : w.tp ≠ some p) : (w.fix p o).Ok where
  sub := fun a u e => by
    have e : upd w.I p o a = some u := e
    by_cases z : a = p
    · subst z; rw [upd_same] at e; rw [← e]; exact hH
    · rw [upd_ne z] at e; exact ok.sub _ _ e
  tape := fun a e => (ok.tape a e).mono (same_new hi) (by show upd w.I p o a = none; rw [upd_ne fun z => ht (by rw [← z]; exact e)]; exact (ok.tape a e).1) rfl
  nolk := ok.nolk
  tups := fun a xs e => by
    show upd w.I p o a = some (.tup xs)
    by_cases z : a = p
    · subst z
      rw [upd_same, ← hH]
      exact e
    · rw [upd_ne z]; exact ok.tups a xs e
/-- a base that knows all of w that stays -/
def Wd.up (w0 w : Wd) : Wd := { I := w.I, H := fun a => match w.I a with | some o => some o | none => w0.H a, tp := w0.tp, lk := w0.lk }
theorem Wd.up_some {w0 w : Wd} {a : Addr} {o : HO} (h : w.I a = some o) : (w0.up w).H a = some o := by
  show (match w.I a with | some o => some o | none => w0.H a) = some o
  rw [h]
theorem Wd.up_none {w0 w : Wd} {a : Addr} (h : w.I a = none) : (w0.up w).H a = w0.H a := by
  show (match w.I a with | some o => some o | none => w0.H a) = w0.H a
  rw [h]
theorem Wd.up_le {w0 w : Wd} (l : w0.le w) (ok : w.Ok) : (w0.up w).le w where
  tp := l.tp
  lk := l.lk
  I := fun _ _ e => e
  H := fun a o e n => by
    cases z : w.I a with
    | some u => rw [Wd.up_some z] at e; cases e; exact ok.sub _ _ z
    | none => rw [Wd.up_none z] at e; exact l.H a o e n
  fr := fun a e _ => e
  dom := fun a e => by
    rw [Wd.up_none (ok.sub.free e)]
    exact l.dom a e
theorem Wd.le_up {w0 w : Wd} (l : w0.le w) (ok : w.Ok) : w0.le (w0.up w) where
  tp := rfl
  lk := rfl
  I := l.I
  H := fun a o e n => by
    cases z : w.I a with
    | some u =>
      rw [Wd.up_some z]
      have q := ok.sub _ _ z
      rw [l.H a o e n] at q
      exact q.symm
    | none => rw [Wd.up_none z]; exact e
  fr := l.fr
  dom := fun a e => by
    cases z : w.I a with
    | some u => rw [Wd.up_some z] at e; cases e
    | none => rw [Wd.up_none z] at e; exact e

/-! ### slots -/
/-- what is known of a slot: nothing; a datum; a list of the frame's own; a dict of the frame's own; the tape -/
inductive Sl where
  | un
  | dat (d : D)
  | lst (xs : List D)
  | dk (kvs : List (Key × D))
  | dt (kvs : List (List Key × D))
  | tape
/-- the frame's own thing at a -/
def OwnAt (K : PySem.W.Frag) (w0 w : Wd) (s : Sl) (a : Addr) : Prop := w0.H a = none ∧ w.I a = none ∧ w.tp ≠ some a ∧
  match s with
  | .lst xs => ∃ vs, w.H a = some (.lst vs) ∧ RpL K w.I xs vs
  | .dk kvs => ∃ es, w.H a = some (.dK es) ∧ RpK K w.I kvs es
  | .dt kvs => ∃ es, w.H a = some (.dT es) ∧ RpT K w.I kvs es
  | _ => False
def SlOk (K : PySem.W.Frag) (w0 w : Wd) (s : Sl) (x : Option (Option V)) : Prop := match s with
  | .un => True
  | .dat d => ∃ v, x = some (some v) ∧ Rp K w.I d v
  | .tape => ∃ a, x = some (some (.ref a)) ∧ w.tp = some a
  | s => ∃ a, x = some (some (.ref a)) ∧ OwnAt K w0 w s a
def isOwn : Sl → Bool
  | .lst _ => true
  | .dk _ => true
  | .dt _ => true
  | _ => false
structure Sr (K : PySem.W.Frag) (lk : Bool) (w0 w : Wd) (σ : St) (ρ : List Sl) : Prop where
  lk : w.lk = lk
  le : w0.le w
  ok : w.Ok
  len : σ.length = ρ.length
  sl : ∀ (i : Nat) (s : Sl), ρ[i]? = some s → SlOk K w0 w s σ[i]?
  ap : ∀ (i j : Nat) (s t : Sl) (a : Addr), ρ[i]? = some s → ρ[j]? = some t → isOwn s = true → isOwn t = true → σ[i]? = some (some (.ref a)) → σ[j]? = some (some (.ref a)) → i = j
section
variable {K : PySem.W.Frag} {lk : Bool} {w0 w w' : Wd} {σ : St} {ρ : List Sl}
theorem OwnAt.own {s : Sl} {a : Addr} (h : OwnAt K w0 w s a) : isOwn s = true := by
  obtain ⟨_, _, _, h⟩ := h
  cases s <;> first | rfl | exact h.elim
theorem OwnAt.there {s : Sl} {a : Addr} (h : OwnAt K w0 w s a) : w.H a ≠ none := by
  obtain ⟨_, _, _, h⟩ := h
  cases s <;> first | exact h.elim | (obtain ⟨vs, e, _⟩ := h; rw [e]; exact fun z => nomatch z)
theorem SlOk.own {s : Sl} {x : Option (Option V)} (ho : isOwn s = true) : SlOk K w0 w s x ↔ ∃ a, x = some (some (.ref a)) ∧ OwnAt K w0 w s a := by
  cases s <;> first | exact Iff.rfl | cases ho
theorem OwnAt.mono {w1 : Wd} {s : Sl} {a : Addr} (h : OwnAt K w0 w s a) (h0 : w1.H a = none) (hI : Same w.I w'.I) (ht : w'.tp = w.tp) (hi : w'.I a = none) (hH : ∀ o, w.H a = some o → w'.H a = some o) : OwnAt K w1 w' s a := by
  obtain ⟨_, _, n, h⟩ := h
  refine ⟨h0, hi, by rw [ht]; exact n, ?_⟩
  cases s with
  | lst xs => obtain ⟨vs, e, r⟩ := h; exact ⟨vs, hH _ e, r.mono hI⟩
  | dk xs => obtain ⟨vs, e, r⟩ := h; exact ⟨vs, hH _ e, r.keeps (.of_same hI)⟩
  | dt xs => obtain ⟨vs, e, r⟩ := h; exact ⟨vs, hH _ e, r.keeps (.of_same hI)⟩
  | un => exact h
  | dat d => exact h
  | tape => exact h
theorem Sr.mono (h : Sr K lk w0 w σ ρ) (l : w.le w') (ok : w'.Ok) : Sr K lk w0 w' σ ρ where
  lk := l.lk.trans h.lk
  le := h.le.trans l
  ok := ok
  len := h.len
  sl := fun i s e => by
    have q := h.sl i s e
    cases s with
    | un => exact True.intro
    | dat d => obtain ⟨v, e, r⟩ := q; exact ⟨v, e, r.mono l.I⟩
    | tape => obtain ⟨a, e, r⟩ := q; exact ⟨a, e, l.tp.trans r⟩
    | lst xs => obtain ⟨a, e, r⟩ := q; exact ⟨a, e, r.mono r.1 l.I l.tp (l.fr a r.2.1 r.there) fun o z => l.H a o z r.2.2.1⟩
    | dk xs => obtain ⟨a, e, r⟩ := q; exact ⟨a, e, r.mono r.1 l.I l.tp (l.fr a r.2.1 r.there) fun o z => l.H a o z r.2.2.1⟩
    | dt xs => obtain ⟨a, e, r⟩ := q; exact ⟨a, e, r.mono r.1 l.I l.tp (l.fr a r.2.1 r.there) fun o z => l.H a o z r.2.2.1⟩
  ap := h.ap
/-- another base, in which what is the frame's own is not -/
theorem Sr.base {w1 : Wd} (h : Sr K lk w0 w σ ρ) (l : w1.le w) (hd : ∀ a, w.I a = none → w0.H a = none → w1.H a = none) : Sr K lk w1 w σ ρ where
  lk := h.lk
  le := l
  ok := h.ok
  len := h.len
  sl := fun i s e => by
    have q := h.sl i s e
    cases s with
    | un => exact True.intro
    | dat d => exact q
    | tape => exact q
    | lst xs => obtain ⟨a, e, r⟩ := q; exact ⟨a, e, hd a r.2.1 r.1, r.2⟩
    | dk xs => obtain ⟨a, e, r⟩ := q; exact ⟨a, e, hd a r.2.1 r.1, r.2⟩
    | dt xs => obtain ⟨a, e, r⟩ := q; exact ⟨a, e, hd a r.2.1 r.1, r.2⟩
  ap := h.ap
theorem Sr.rebase (h : Sr K lk w0 w σ ρ) : Sr K lk (w0.up w) w σ ρ := h.base (Wd.up_le h.le h.ok) fun a hi h0 => by rw [Wd.up_none hi]; exact h0
theorem Sr.back {w1 : Wd} (l : w0.le w1) (h : Sr K lk w1 w σ ρ) : Sr K lk w0 w σ ρ := h.base (l.trans h.le) fun a _ h0 => l.dom a h0
/-- a slot gets a datum -/
theorem Sr.set (h : Sr K lk w0 w σ ρ) (i : Nat) {d : D} {v : V} (r : Rp K w.I d v) : Sr K lk w0 w (σ.set i (some v)) (ρ.set i (.dat d)) where
  lk := h.lk
  le := h.le
  ok := h.ok
  len := by rw [List.length_set, List.length_set]; exact h.len
  sl := fun j s e => by
    by_cases z : i = j
    · subst z
      have hl : i < ρ.length := by
        have := (List.getElem?_eq_some_iff.mp e).1
        rw [List.length_set] at this
        exact this
      rw [List.getElem?_set_self hl] at e
      cases e
      exact ⟨v, by rw [List.getElem?_set_self (by rw [h.len]; exact hl)], r⟩
    · rw [List.getElem?_set_ne z] at e ⊢
      exact h.sl j s e
  ap := fun j k s t a e1 e2 o1 o2 f1 f2 => by
    have nj : i ≠ j := fun z => by
      subst z
      have hl : i < ρ.length := by
        have := (List.getElem?_eq_some_iff.mp e1).1
        rw [List.length_set] at this
        exact this
      rw [List.getElem?_set_self hl] at e1
      cases e1
      cases o1
    have nk : i ≠ k := fun z => by
      subst z
      have hl : i < ρ.length := by
        have := (List.getElem?_eq_some_iff.mp e2).1
        rw [List.length_set] at this
        exact this
      rw [List.getElem?_set_self hl] at e2
      cases e2
      cases o2
    rw [List.getElem?_set_ne nj] at e1 f1
    rw [List.getElem?_set_ne nk] at e2 f2
    exact h.ap j k s t a e1 e2 o1 o2 f1 f2
/-- less is known of a slot -/
theorem Sr.unset (h : Sr K lk w0 w σ ρ) (i : Nat) {x : Option V} : Sr K lk w0 w (σ.set i x) (ρ.set i .un) where
  lk := h.lk
  le := h.le
  ok := h.ok
  len := by rw [List.length_set, List.length_set]; exact h.len
  sl := fun j s e => by
    by_cases z : i = j
    · subst z
      have hl : i < ρ.length := by
        have := (List.getElem?_eq_some_iff.mp e).1
        rw [List.length_set] at this
        exact this
      rw [List.getElem?_set_self hl] at e
      cases e
      exact True.intro
    · rw [List.getElem?_set_ne z] at e ⊢
      exact h.sl j s e
  ap := fun j k s t a e1 e2 o1 o2 f1 f2 => by
    have nj : i ≠ j := fun z => by
      subst z
      have hl : i < ρ.length := by
        have := (List.getElem?_eq_some_iff.mp e1).1
        rw [List.length_set] at this
        exact this
      rw [List.getElem?_set_self hl] at e1
      cases e1
      cases o1
    have nk : i ≠ k := fun z => by
      subst z
      have hl : i < ρ.length := by
        have := (List.getElem?_eq_some_iff.mp e2).1
        rw [List.length_set] at this
        exact this
      rw [List.getElem?_set_self hl] at e2
      cases e2
      cases o2
    rw [List.getElem?_set_ne nj] at e1 f1
    rw [List.getElem?_set_ne nk] at e2 f2
    exact h.ap j k s t a e1 e2 o1 o2 f1 f2
/-- slots forgotten -/
def wipeS (ρ : List Sl) : List Nat → List Sl
  | [] => ρ
  | v :: vs => (wipeS ρ vs).set v .un
theorem Sr.wipe (h : Sr K lk w0 w σ ρ) : ∀ vs : List Nat, Sr K lk w0 w (L2.wipe σ vs) (wipeS ρ vs)
  | [] => h
  | v :: vs => (Sr.wipe h vs).unset v
/-- what is the frame's own is changed: the slot i -/
theorem Sr.own (h : Sr K lk w0 w σ ρ) {i : Nat} {s t : Sl} {a : Addr} (hs : ρ[i]? = some s) (ho : isOwn s = true) (ha : σ[i]? = some (some (.ref a))) (o : HO) (hp : plainP o) (hn : OwnAt K w0 (w.put a o) t a) : Sr K lk w0 (w.put a o) σ (ρ.set i t) := by
  have q := h.sl i s hs
  obtain ⟨a', e', ow⟩ := (SlOk.own ho).mp q
  obtain rfl : a = a' := by rw [ha] at e'; cases e'; rfl
  refine ⟨h.lk, Wd.le_put h.le ow.1, Wd.put_ok h.ok ow.2.1 ow.2.2.1 hp, by rw [List.length_set]; exact h.len, fun j s' e => ?_, fun j k s' t' b e1 e2 o1 o2 f1 f2 => ?_⟩
  · by_cases z : i = j
    · subst z
      rw [List.getElem?_set_self (List.getElem?_eq_some_iff.mp hs).1] at e
      cases e
      exact (SlOk.own hn.own).mpr ⟨a, ha, hn⟩
    · rw [List.getElem?_set_ne z] at e
      have q' := h.sl j s' e
      by_cases oj : isOwn s' = true
      · obtain ⟨b, eb, ob⟩ := (SlOk.own oj).mp q'
        refine (SlOk.own oj).mpr ⟨b, eb, ob.mono ob.1 (fun _ _ z => z) rfl ob.2.1 fun u hu => ?_⟩
        have nb : b ≠ a := fun y => by
          subst y
          exact z (h.ap i j s s' b hs e ho oj ha eb)
        show upd w.H a o b = some u
        rw [upd_ne nb]
        exact hu
      · cases s' with
        | un => exact True.intro
        | dat d => exact q'
        | tape => exact q'
        | lst xs => exact absurd rfl oj
        | dk xs => exact absurd rfl oj
        | dt xs => exact absurd rfl oj
  · have own' : ∀ {m : Nat} {r : Sl}, (ρ.set i t)[m]? = some r → isOwn r = true → ∃ r', ρ[m]? = some r' ∧ isOwn r' = true := fun {m r} e orr => by
      by_cases z : i = m
      · subst z; exact ⟨s, hs, ho⟩
      · rw [List.getElem?_set_ne z] at e; exact ⟨r, e, orr⟩
    obtain ⟨r1, g1, p1⟩ := own' e1 o1
    obtain ⟨r2, g2, p2⟩ := own' e2 o2
    exact h.ap j k r1 r2 b g1 g2 p1 p2 f1 f2
/-- a new thing of the frame's own -/
theorem Sr.grow (h : Sr K lk w0 w σ ρ) (i : Nat) {t : Sl} {a : Addr} {o : HO} (hp : plainP o) (ha : w.H a = none) (hn : OwnAt K w0 (w.put a o) t a) : Sr K lk w0 (w.put a o) (σ.set i (some (.ref a))) (ρ.set i t) := by
  have h0 : w0.H a = none := h.le.dom a ha
  refine ⟨h.lk, Wd.le_put h.le h0, Wd.put_ok h.ok (notI h.ok ha) (not_tape h.ok ha) hp, by rw [List.length_set, List.length_set]; exact h.len, fun j s' e => ?_, fun j k s' t' b e1 e2 o1 o2 f1 f2 => ?_⟩
  · by_cases z : i = j
    · subst z
      have hl : i < ρ.length := by
        have := (List.getElem?_eq_some_iff.mp e).1
        rw [List.length_set] at this
        exact this
      rw [List.getElem?_set_self hl] at e
      cases e
      exact (SlOk.own hn.own).mpr ⟨a, by rw [List.getElem?_set_self (by rw [h.len]; exact hl)], hn⟩
    · rw [List.getElem?_set_ne z] at e ⊢
      have q' := h.sl j s' e
      by_cases oj : isOwn s' = true
      · obtain ⟨b, eb, ob⟩ := (SlOk.own oj).mp q'
        refine (SlOk.own oj).mpr ⟨b, eb, ob.mono ob.1 (fun _ _ z => z) rfl ob.2.1 fun u hu => ?_⟩
        have nb : b ≠ a := ne_of_none hu ha
        show upd w.H a o b = some u
        rw [upd_ne nb]
        exact hu
      · cases s' with
        | un => exact True.intro
        | dat d => exact q'
        | tape => exact q'
        | lst xs => exact absurd rfl oj
        | dk xs => exact absurd rfl oj
        | dt xs => exact absurd rfl oj
  · have other : ∀ {m : Nat} {r : Sl}, i ≠ m → (ρ.set i t)[m]? = some r → isOwn r = true → (σ.set i (some (.ref a)))[m]? = some (some (.ref b)) → b ≠ a ∧ ρ[m]? = some r ∧ σ[m]? = some (some (.ref b)) := fun {m r} z e orr f => by
      rw [List.getElem?_set_ne z] at e f
      obtain ⟨c, ec, oc⟩ := (SlOk.own orr).mp (h.sl m r e)
      obtain rfl : b = c := by rw [f] at ec; cases ec; rfl
      exact ⟨fun y => oc.there (by rw [y]; exact ha), e, f⟩
    have self : ∀ {m : Nat} {r : Sl}, i = m → (ρ.set i t)[m]? = some r → (σ.set i (some (.ref a)))[m]? = some (some (.ref b)) → b = a := fun {m r} z e f => by
      subst z
      have hl : i < ρ.length := by
        have := (List.getElem?_eq_some_iff.mp e).1
        rw [List.length_set] at this
        exact this
      rw [List.getElem?_set_self (by rw [h.len]; exact hl)] at f
      cases f
      rfl
    by_cases zj : i = j
    · by_cases zk : i = k
      · exact zj.symm.trans zk
      · exact absurd (self zj e1 f1) (other zk e2 o2 f2).1
    · by_cases zk : i = k
      · exact absurd (self zk e2 f2) (other zj e1 o1 f1).1
      · obtain ⟨_, g1, k1⟩ := other zj e1 o1 f1
        obtain ⟨_, g2, k2⟩ := other zk e2 o2 f2
        exact h.ap j k s' t' b g1 g2 o1 o2 k1 k2
end
end RF

set_option Elab.async false
set_option linter.all false
set_option maxRecDepth 100000
set_option maxHeartbeats 4000000
set_option autoImplicit false
namespace RF
open PySem L2

/-! ### what evaluates to what, by the slots alone -/
def Gets (K : PySem.W.Frag) (w : Wd) (P : D → Prop) (Q : VK) : Prop := ∀ (v : V) (w' : Wd) (d : D), w.le w' → w'.Ok → Rp K w'.I d v → P d → Q v w'.H
def EvS (K : PySem.W.Frag) (lk : Bool) (te : TE) (ρ : List Sl) (P : D → Prop) : Prop := ∀ (w0 w : Wd) (σ : St), Sr K lk w0 w σ ρ → ∀ Q : VK, Gets K w P Q → te σ w.H Q
def EvT (K : PySem.W.Frag) (lk : Bool) (tt : TT) (ρ : List Sl) (P : Bool → Prop) : Prop := ∀ (w0 w : Wd) (σ : St), Sr K lk w0 w σ ρ → ∀ Q : Bool → Hp → Prop, (∀ (b : Bool) (w' : Wd), w.le w' → w'.Ok → P b → Q b w'.H) → tt σ w.H Q
/-- an argument: a datum, or the tape -/
inductive Ar where
  | d (x : D)
  | tp
def ArOk (K : PySem.W.Frag) (w : Wd) : Ar → V → Prop
  | .d x, v => Rp K w.I x v
  | .tp, v => ∃ a, v = .ref a ∧ w.tp = some a
def ArsOk (K : PySem.W.Frag) (w : Wd) : List Ar → List V → Prop
  | [], vs => vs = []
  | a :: as, vs => ∃ v r, vs = v :: r ∧ ArOk K w a v ∧ ArsOk K w as r
def EvA (K : PySem.W.Frag) (lk : Bool) (ta : TA) (ρ : List Sl) (P : List Ar → Prop) : Prop := ∀ (w0 w : Wd) (σ : St), Sr K lk w0 w σ ρ → ∀ Q : List V → Hp → Prop, (∀ (vs : List V) (w' : Wd) (as : List Ar), w.le w' → w'.Ok → ArsOk K w' as vs → P as → Q vs w'.H) → ta σ w.H Q
abbrev EvD (K : PySem.W.Frag) (lk : Bool) (te : TE) (ρ : List Sl) (d : D) : Prop := EvS K lk te ρ (fun x => x = d)
abbrev EvB (K : PySem.W.Frag) (lk : Bool) (tt : TT) (ρ : List Sl) (b : Bool) : Prop := EvT K lk tt ρ (fun x => x = b)
/-- a two-place operation on data; a call on arguments -/
def RvS (K : PySem.W.Frag) (lk : Bool) (r : R2) (x y : D) (P : D → Prop) : Prop := ∀ (w : Wd) (v u : V), w.Ok → w.lk = lk → Rp K w.I x v → Rp K w.I y u → ∀ Q : VK, Gets K w P Q → r v u w.H Q
def RcS (K : PySem.W.Frag) (lk : Bool) (r : List V → Hp → VK → Prop) (as : List Ar) (P : D → Prop) : Prop := ∀ (w : Wd) (vs : List V), w.Ok → w.lk = lk → ArsOk K w as vs → ∀ Q : VK, Gets K w P Q → r vs w.H Q

section
variable {K : PySem.W.Frag} {lk : Bool} {ρ : List Sl} {ta tb te : TE} {tt tu : TT} {A B P : D → Prop} {x y z d : D} {r : R2}
theorem Gets.here {w : Wd} {Q : VK} {v : V} (g : Gets K w P Q) (ok : w.Ok) (r : Rp K w.I d v) (p : P d) : Q v w.H := g v w d (.refl w) ok r p
theorem Gets.new {w : Wd} {Q : VK} {p : Addr} {o : HO} (g : Gets K w P Q) (ok : w.Ok) (h : w.H p = none) (ho : plainO o) (r : Rp K (upd w.I p o) d (.ref p)) (q : P d) : Q (.ref p) (upd w.H p o) :=
  g (.ref p) (w.new p o) d (Wd.new_le ok h) (Wd.new_ok ok h ho) r q
theorem Gets.up {w w' : Wd} {Q : VK} (g : Gets K w P Q) (l : w.le w') : Gets K w' P Q := fun v w2 d l2 ok r p => g v w2 d (l.trans l2) ok r p
theorem Gets.imp {w : Wd} {Q : VK} (g : Gets K w P Q) (h : ∀ d, A d → P d) : Gets K w A Q := fun v w2 d l2 ok r p => g v w2 d l2 ok r (h d p)
theorem EvS.imp (h : EvS K lk te ρ A) (i : ∀ d, A d → P d) : EvS K lk te ρ P := fun w0 w σ s Q g => h w0 w σ s Q (g.imp i)
theorem EvT.imp {A P : Bool → Prop} (h : EvT K lk tt ρ A) (i : ∀ d, A d → P d) : EvT K lk tt ρ P := fun w0 w σ s Q g => h w0 w σ s Q fun b w' l ok a => g b w' l ok (i b a)
theorem EvS.det (h : EvS K lk te ρ A) (i : ∀ d, A d → d = x) : EvD K lk te ρ x := h.imp i
theorem ev_is (h : EvD K lk te ρ x) (e : x = y) : EvD K lk te ρ y := e ▸ h
theorem eb_is {a b : Bool} (h : EvB K lk tt ρ a) (e : a = b) : EvB K lk tt ρ b := e ▸ h
/-- a word about the value itself, whatever it is -/
theorem EvS.of_all (h : ∀ d, A d → EvS K lk te ρ P) (hA : ∃ d, A d) : EvS K lk te ρ P := h _ hA.choose_spec

theorem ev_v {i : Nat} (h : ρ[i]? = some (.dat d)) : EvD K lk (tVar i) ρ d := fun w0 w σ s Q g => by
  obtain ⟨v, e, r⟩ := s.sl i _ h
  exact ⟨v, e, g.here s.ok r rfl⟩
theorem ev_c {v : V} (h : ∀ I, Rp K I d v) : EvD K lk (tC v) ρ d := fun w0 w σ s Q g => g.here s.ok (h _) rfl
theorem ev_int {i : Int} : EvD K lk (tC (.int i)) ρ (.int i) := ev_c fun _ => rfl
theorem ev_str {i : Str} : EvD K lk (tC (.str i)) ρ (.str i) := ev_c fun _ => rfl
theorem ev_bl {i : Bool} : EvD K lk (tC (.bl i)) ρ (.bl i) := ev_c fun _ => rfl
theorem ev_non : EvD K lk (tC .non) ρ .non := ev_c fun _ => rfl
theorem ev_op (ha : EvS K lk ta ρ A) (hb : EvS K lk tb ρ B) (hr : ∀ x y, A x → B y → RvS K lk r x y P) : EvS K lk (tOp r ta tb) ρ P := fun w0 w σ s Q g =>
  ha w0 w σ s _ fun v w1 x l1 ok1 r1 a => hb w0 w1 σ (s.mono l1 ok1) _ fun u w2 y l2 ok2 r2 b =>
    hr x y a b w2 v u ok2 ((s.mono l1 ok1).mono l2 ok2).lk (r1.mono l2.I) r2 Q (g.up (l1.trans l2))
theorem ev_op2 (ha : EvD K lk ta ρ x) (hb : EvD K lk tb ρ y) (hr : RvS K lk r x y P) : EvS K lk (tOp r ta tb) ρ P := ev_op ha hb fun _ _ a b => by
  rw [a, b]
  exact hr
theorem rv_I0 {g : Int → Int → V} {i j : Int} (h : ∀ I, Rp K I d (g i j)) : RvS K lk (rI0 g) (.int i) (.int j) (fun x => x = d) := fun w v u ok _ r1 r2 Q q => ⟨i, j, r1, r2, q.here ok (h _) rfl⟩
theorem rv_I {C : Int → Int → Prop} {g : Int → Int → V} {i j : Int} (hc : C i j) (h : ∀ I, Rp K I d (g i j)) : RvS K lk (rI C g) (.int i) (.int j) (fun x => x = d) := fun w v u ok _ r1 r2 Q q => ⟨i, j, r1, r2, hc, q.here ok (h _) rfl⟩
section
variable {i j : Int}
theorem ev_add (ha : EvD K lk ta ρ (.int i)) (hb : EvD K lk tb ρ (.int j)) : EvD K lk (tOp (rI0 fun i j => .int (i + j)) ta tb) ρ (.int (i + j)) := ev_op2 ha hb (rv_I0 fun _ => rfl)
theorem ev_sub (ha : EvD K lk ta ρ (.int i)) (hb : EvD K lk tb ρ (.int j)) : EvD K lk (tOp (rI0 fun i j => .int (i - j)) ta tb) ρ (.int (i - j)) := ev_op2 ha hb (rv_I0 fun _ => rfl)
theorem ev_mul (ha : EvD K lk ta ρ (.int i)) (hb : EvD K lk tb ρ (.int j)) (h : CMul i j) : EvD K lk (tOp (rI CMul fun i j => .int (i * j)) ta tb) ρ (.int (i * j)) := ev_op2 ha hb (rv_I h fun _ => rfl)
theorem ev_mulW (ha : EvD K lk ta ρ (.int i)) (hb : EvD K lk tb ρ (.int j)) (h : CMulW i j) : EvD K lk (tOp (rI CMulW fun i j => .int (i * j)) ta tb) ρ (.int (i * j)) := ev_op2 ha hb (rv_I h fun _ => rfl)
theorem ev_divW (ha : EvD K lk ta ρ (.int i)) (hb : EvD K lk tb ρ (.int j)) (h : CDivW i j) : EvD K lk (tOp (rI CDivW fun i j => .int (i / j)) ta tb) ρ (.int (i / j)) := ev_op2 ha hb (rv_I h fun _ => rfl)
theorem ev_mod (ha : EvD K lk ta ρ (.int i)) (hb : EvD K lk tb ρ (.int j)) (h : 0 < j) : EvD K lk (tOp (rI (fun _ j => 0 < j) fun i j => .int (i % j)) ta tb) ρ (.int (i % j)) := ev_op2 ha hb (rv_I (C := fun _ j => 0 < j) h fun _ => rfl)
theorem ev_pow (ha : EvD K lk ta ρ (.int i)) (hb : EvD K lk tb ρ (.int j)) (h : CPow i j) : EvD K lk (tOp (rI CPow fun i j => .int (i ^ j.toNat)) ta tb) ρ (.int (i ^ j.toNat)) := ev_op2 ha hb (rv_I h fun _ => rfl)
theorem ev_lt (ha : EvD K lk ta ρ (.int i)) (hb : EvD K lk tb ρ (.int j)) : EvD K lk (tOp (rI0 fun i j => .bl (decide (i < j))) ta tb) ρ (.bl (decide (i < j))) := ev_op2 ha hb (rv_I0 fun _ => rfl)
theorem ev_le (ha : EvD K lk ta ρ (.int i)) (hb : EvD K lk tb ρ (.int j)) : EvD K lk (tOp (rI0 fun i j => .bl (decide (i ≤ j))) ta tb) ρ (.bl (decide (i ≤ j))) := ev_op2 ha hb (rv_I0 fun _ => rfl)
theorem ev_gt (ha : EvD K lk ta ρ (.int i)) (hb : EvD K lk tb ρ (.int j)) : EvD K lk (tOp (rI0 fun i j => .bl (decide (j < i))) ta tb) ρ (.bl (decide (j < i))) := ev_op2 ha hb (rv_I0 fun _ => rfl)
theorem ev_ge (ha : EvD K lk ta ρ (.int i)) (hb : EvD K lk tb ρ (.int j)) : EvD K lk (tOp (rI0 fun i j => .bl (decide (j ≤ i))) ta tb) ρ (.bl (decide (j ≤ i))) := ev_op2 ha hb (rv_I0 fun _ => rfl)
theorem ev_neg (ha : EvD K lk ta ρ (.int i)) : EvD K lk (tUn (rU fun i => .int (-i)) ta) ρ (.int (-i)) := fun w0 w σ s Q g =>
  ha w0 w σ s _ fun v w1 x l1 ok1 r1 a => by
    subst a
    exact ⟨i, r1, (g.up l1).here (d := .int (-i)) ok1 rfl rfl⟩
end
/-! ### == and != of flat things -/
def flatD : D → D → Bool
  | .int _, .int _ => true
  | .bl _, .bl _ => true
  | .str _, .str _ => true
  | .non, .non => true
  | .int _, .str _ => true
  | .str _, .int _ => true
  | .bl _, .str _ => true
  | .str _, .bl _ => true
  | .non, .int _ => true
  | .int _, .non => true
  | .non, .bl _ => true
  | .bl _, .non => true
  | .non, .str _ => true
  | .str _, .non => true
  | _, _ => false
def eqF : D → D → Bool
  | .int a, .int b => decide (a = b)
  | .bl a, .bl b => decide (a = b)
  | .str a, .str b => decide (a = b)
  | .non, .non => true
  | _, _ => false
theorem scal_of {I : Hp} {v u : V} (h : flatD x y = true) (r1 : Rp K I x v) (r2 : Rp K I y u) : scal v u = true ∧ decide (v = u) = eqF x y := by
  cases x <;> cases y <;> first
    | (exfalso; revert h; exact fun z => Bool.noConfusion z)
    | (rw [show v = _ from r1, show u = _ from r2]; refine ⟨rfl, ?_⟩; simp [eqF])
theorem ev_eq (ha : EvD K lk ta ρ x) (hb : EvD K lk tb ρ y) (h : flatD x y = true) : EvD K lk (tOp rEq ta tb) ρ (.bl (eqF x y)) := ev_op2 ha hb fun w v u ok _ r1 r2 Q q => by
  obtain ⟨s1, s2⟩ := scal_of h r1 r2
  exact ⟨s1, by rw [s2]; exact q.here (d := .bl _) ok rfl rfl⟩
theorem ev_ne (ha : EvD K lk ta ρ x) (hb : EvD K lk tb ρ y) (h : flatD x y = true) : EvD K lk (tOp rNe ta tb) ρ (.bl (!eqF x y)) := ev_op2 ha hb fun w v u ok _ r1 r2 Q q => by
  obtain ⟨s1, s2⟩ := scal_of h r1 r2
  exact ⟨s1, by rw [s2]; exact q.here (d := .bl _) ok rfl rfl⟩
/-! ### items -/
theorem at_rp {I : Hp} {ds : List D} {vs : List V} {i : Int} (r : RpL K I ds vs) (h : atI ds i = some d) : ∃ v, atI vs i = some v ∧ Rp K I d v := by
  unfold atI at h ⊢
  rw [r.length]
  cases e : ixN ds.length i with
  | none => rw [e] at h; cases h
  | some j =>
    rw [e] at h
    obtain ⟨v, e1, e2⟩ := r.get (i := j) h
    exact ⟨v, e1, e2⟩
theorem ev_ixT {ds : List D} {i : Int} (ha : EvD K lk ta ρ (.tup ds)) (hb : EvD K lk tb ρ (.int i)) (h : atI ds i = some d) : EvD K lk (tOp (rIxT K) ta tb) ρ d := ev_op2 ha hb fun w v u ok _ r1 r2 Q q => by
  obtain ⟨a, xs, e, s, r⟩ := r1
  obtain ⟨z, h1, h2⟩ := at_rp r h
  exact ⟨a, xs, i, z, e, r2, sqT_keeps (.of_same ok.sub) s, h1, q.here ok h2 rfl⟩
theorem ev_ixL {ds : List D} {i : Int} (ha : EvD K lk ta ρ (.lst ds)) (hb : EvD K lk tb ρ (.int i)) (h : atI ds i = some d) : EvD K lk (tOp (rIxL K) ta tb) ρ d := ev_op2 ha hb fun w v u ok _ r1 r2 Q q => by
  obtain ⟨a, xs, e, s, r⟩ := r1
  obtain ⟨z, h1, h2⟩ := at_rp r h
  exact ⟨a, xs, i, z, e, r2, sqL_keeps (.of_same ok.sub) s, h1, q.here ok h2 rfl⟩
theorem sqLH {w : Wd} (ok : w.Ok) {a : Addr} {xs : List V} (h : SqL K w.I a xs) : SqL K w.H a xs := sqL_keeps (.of_same ok.sub) h
theorem sqTH {w : Wd} (ok : w.Ok) {a : Addr} {xs : List V} (h : SqT K w.I a xs) : SqT K w.H a xs := sqT_keeps (.of_same ok.sub) h
/-! ### argument lists, tuples, lists -/
theorem ArOk.mono {w w' : Wd} (l : w.le w') : ∀ {a : Ar} {v : V}, ArOk K w a v → ArOk K w' a v
  | .d x, v, r => Rp.mono l.I r
  | .tp, v, ⟨a, e, t⟩ => ⟨a, e, l.tp.trans t⟩
theorem ArsOk.mono {w w' : Wd} (l : w.le w') : ∀ {as : List Ar} {vs : List V}, ArsOk K w as vs → ArsOk K w' as vs
  | [], _, r => r
  | a :: as, _, ⟨v, s, e, r, q⟩ => ⟨v, s, e, r.mono l, ArsOk.mono l q⟩
theorem ea_nil : EvA K lk tNil ρ (fun as => as = []) := fun w0 w σ s Q g => g [] w [] (.refl w) s.ok rfl rfl
theorem ea_cons' {tr : TA} {C : List Ar → Prop} {R : List Ar → Prop} (h : EvS K lk ta ρ A) (hr : EvA K lk tr ρ C) (i : ∀ d as, A d → C as → R (.d d :: as)) : EvA K lk (tCons ta tr) ρ R := fun w0 w σ s Q g =>
  h w0 w σ s _ fun v w1 x l1 ok1 r1 a => hr w0 w1 σ (s.mono l1 ok1) _ fun vs w2 as l2 ok2 r2 c => g _ w2 (.d x :: as) (l1.trans l2) ok2 ⟨v, vs, rfl, r1.mono l2.I, r2⟩ (i x as a c)
theorem ea_cons {tr : TA} {as : List Ar} (h : EvD K lk ta ρ d) (hr : EvA K lk tr ρ (fun x => x = as)) : EvA K lk (tCons ta tr) ρ (fun x => x = .d d :: as) := ea_cons' h hr fun _ _ a b => by rw [a, b]
theorem ea_tape {tr : TA} {C R : List Ar → Prop} {i : Nat} (h : ρ[i]? = some .tape) (hr : EvA K lk tr ρ C) (j : ∀ as, C as → R (.tp :: as)) : EvA K lk (tCons (tVar i) tr) ρ R := fun w0 w σ s Q g => by
  obtain ⟨a, e, t⟩ := s.sl i _ h
  exact ⟨.ref a, e, hr w0 w σ s _ fun vs w2 as l2 ok2 r2 c => g _ w2 (.tp :: as) l2 ok2 ⟨.ref a, vs, rfl, ⟨a, rfl, l2.tp.trans t⟩, r2⟩ (j as c)⟩
def dats : List D → List Ar := List.map Ar.d
theorem ars_dats {w : Wd} : ∀ {ds : List D} {vs : List V}, ArsOk K w (dats ds) vs → RpL K w.I ds vs
  | [], _, r => r
  | d :: ds, _, ⟨v, s, e, r, q⟩ => ⟨v, s, e, r, ars_dats q⟩
theorem ars_one {w : Wd} {vs : List V} (h : ArsOk K w [.d d] vs) : ∃ v, vs = [v] ∧ Rp K w.I d v := by
  obtain ⟨v, s, e, r, q⟩ := h
  exact ⟨v, by rw [e, show s = [] from q], r⟩
theorem ars_two {w : Wd} {vs : List V} {a b : Ar} (h : ArsOk K w [a, b] vs) : ∃ v u, vs = [v, u] ∧ ArOk K w a v ∧ ArOk K w b u := by
  obtain ⟨v, s, e, r, u, s', e', r', q⟩ := h
  exact ⟨v, u, by rw [e, e', show s' = [] from q], r, r'⟩
theorem ev_tup' {ta : TA} {C : List Ar → Prop} (h : EvA K lk ta ρ C) (i : ∀ as, C as → ∃ ds, as = dats ds ∧ ds.length ≤ 1000 ∧ P (.tup ds)) : EvS K lk (tTup ta) ρ P := fun w0 w σ s Q g =>
  h w0 w σ s _ fun vs w1 as l1 ok1 r1 c => by
    obtain ⟨ds, rfl, hl, p⟩ := i as c
    have r := ars_dats r1
    refine ⟨by rw [r.length]; exact Nat.le_trans hl (by decide), fun a ha => ?_⟩
    exact (g.up l1).new (d := .tup ds) ok1 ha True.intro ⟨a, vs, rfl, .inl (.inl upd_same), r.mono (same_new (notI ok1 ha))⟩ p
theorem ev_tup {ta : TA} {ds : List D} (h : EvA K lk ta ρ (fun x => x = dats ds)) (hl : ds.length ≤ 1000 := by exact Nat.le_of_ble_eq_true rfl) : EvD K lk (tTup ta) ρ (.tup ds) := ev_tup' h fun as e => ⟨ds, e, hl, rfl⟩
theorem ev_lst' {ta : TA} {C : List Ar → Prop} (h : EvA K lk ta ρ C) (i : ∀ as, C as → ∃ ds, as = dats ds ∧ ds.length ≤ 1000 ∧ P (.lst ds)) : EvS K lk (tLst ta) ρ P := fun w0 w σ s Q g =>
  h w0 w σ s _ fun vs w1 as l1 ok1 r1 c => by
    obtain ⟨ds, rfl, hl, p⟩ := i as c
    have r := ars_dats r1
    refine ⟨by rw [r.length]; exact Nat.le_trans hl (by decide), fun a ha => ?_⟩
    exact (g.up l1).new (d := .lst ds) ok1 ha True.intro ⟨a, vs, rfl, .inl (.inl upd_same), r.mono (same_new (notI ok1 ha))⟩ p
theorem ev_lst {ta : TA} {ds : List D} (h : EvA K lk ta ρ (fun x => x = dats ds)) (hl : ds.length ≤ 1000 := by exact Nat.le_of_ble_eq_true rfl) : EvD K lk (tLst ta) ρ (.lst ds) := ev_lst' h fun as e => ⟨ds, e, hl, rfl⟩
/-! ### calls -/
/-- a def's promise over data -/
def spP (K : PySem.W.Frag) (needs : Bool) {α : Type} (enc : α → List Ar) (pre : α → Prop) (post : α → D → Prop) : Sp := fun vs H Q _ =>
  ∃ (x : α) (w : Wd), w.H = H ∧ w.Ok ∧ (needs = true → w.lk = false) ∧ ArsOk K w (enc x) vs ∧ pre x ∧ Gets K w (post x) Q
theorem ev_call' {needs : Bool} {α : Type} {enc : α → List Ar} {pre : α → Prop} {post : α → D → Prop} {E : XK} {ta : TA} {C : List Ar → Prop} (hn : needs = true → lk = false) (h : EvA K lk ta ρ C)
    (i : ∀ as, C as → ∃ x, as = enc x ∧ pre x ∧ ∀ d, post x d → P d) : EvS K lk (tCall (spP K needs enc pre post) [] E ta) ρ P := fun w0 w σ s Q g =>
  h w0 w σ s _ fun vs w1 as l1 ok1 r1 c => by
    obtain ⟨x, rfl, p, k⟩ := i as c
    rw [List.append_nil]
    exact ⟨x, w1, rfl, ok1, fun n => by rw [l1.lk, s.lk]; exact hn n, r1, p, (g.up l1).imp k⟩
theorem ev_call {needs : Bool} {α : Type} {enc : α → List Ar} {pre : α → Prop} {post : α → D → Prop} {E : XK} {ta : TA} (x : α) (h : EvA K lk ta ρ (fun as => as = enc x)) (p : pre x) (hn : needs = true → lk = false := by intro h; cases h) :
    EvS K lk (tCall (spP K needs enc pre post) [] E ta) ρ (post x) := ev_call' hn h fun as e => ⟨x, e, p, fun _ q => q⟩
/-- built-ins -/
theorem ev_cb {f : List V → Hp → VK → Prop} {ta : TA} {C : List Ar → Prop} (h : EvA K lk ta ρ C) (i : ∀ as, C as → RcS K lk f as P) : EvS K lk (tCB f ta) ρ P := fun w0 w σ s Q g =>
  h w0 w σ s _ fun vs w1 as l1 ok1 r1 c => i as c w1 vs ok1 (l1.lk.trans s.lk) r1 Q (g.up l1)
theorem ev_cb1 {f : List V → Hp → VK → Prop} {ta : TA} {as : List Ar} (h : EvA K lk ta ρ (fun x => x = as)) (i : RcS K lk f as P) : EvS K lk (tCB f ta) ρ P := ev_cb h fun _ e => by rw [e]; exact i
/-! ### tests -/
theorem et_test {b : Bool} (h : EvD K lk te ρ (.bl b)) : EvB K lk (tTest te) ρ b := fun w0 w σ s Q g => h w0 w σ s _ fun v w1 x l1 ok1 r1 a => by
  subst a
  exact ⟨b, r1, g b w1 l1 ok1 rfl⟩
theorem et_B {b : Bool} (h : EvD K lk te ρ (.bl b)) : EvB K lk (tB te) ρ b := fun w0 w σ s Q g => h w0 w σ s _ fun v w1 x l1 ok1 r1 a => by
  subst a
  exact ⟨b, r1, g b w1 l1 ok1 rfl⟩
theorem et_test' {T : Bool → Prop} (h : EvS K lk te ρ (fun d => ∃ b, d = .bl b ∧ T b)) : EvT K lk (tTest te) ρ T := fun w0 w σ s Q g => h w0 w σ s _ fun v w1 x l1 ok1 r1 a => by
  obtain ⟨b, rfl, t⟩ := a
  exact ⟨b, r1, g b w1 l1 ok1 t⟩
theorem et_B' {T : Bool → Prop} (h : EvS K lk te ρ (fun d => ∃ b, d = .bl b ∧ T b)) : EvT K lk (tB te) ρ T := fun w0 w σ s Q g => h w0 w σ s _ fun v w1 x l1 ok1 r1 a => by
  obtain ⟨b, rfl, t⟩ := a
  exact ⟨b, r1, g b w1 l1 ok1 t⟩
theorem et_and' {T U : Bool → Prop} (h1 : EvT K lk tt ρ T) (hf : T false → U false) (h2 : T true → EvT K lk tu ρ U) : EvT K lk (tAnd tt tu) ρ U := fun w0 w σ s Q g => h1 w0 w σ s _ fun b w1 l1 ok1 a => by
  cases b with
  | true => exact h2 a w0 w1 σ (s.mono l1 ok1) Q fun c w2 l2 ok2 u => g c w2 (l1.trans l2) ok2 u
  | false => exact g false w1 l1 ok1 (hf a)
theorem et_or' {T U : Bool → Prop} (h1 : EvT K lk tt ρ T) (hf : T true → U true) (h2 : T false → EvT K lk tu ρ U) : EvT K lk (tOr tt tu) ρ U := fun w0 w σ s Q g => h1 w0 w σ s _ fun b w1 l1 ok1 a => by
  cases b with
  | false => exact h2 a w0 w1 σ (s.mono l1 ok1) Q fun c w2 l2 ok2 u => g c w2 (l1.trans l2) ok2 u
  | true => exact g true w1 l1 ok1 (hf a)
theorem et_and {a b : Bool} (h1 : EvB K lk tt ρ a) (h2 : a = true → EvB K lk tu ρ b) : EvB K lk (tAnd tt tu) ρ (a && b) := et_and' h1 (fun e => by rw [← e]; rfl) fun e => by
  have e : a = true := e.symm
  subst e
  exact h2 rfl
theorem et_or {a b : Bool} (h1 : EvB K lk tt ρ a) (h2 : a = false → EvB K lk tu ρ b) : EvB K lk (tOr tt tu) ρ (a || b) := et_or' h1 (fun e => by rw [← e]; rfl) fun e => by
  have e : a = false := e.symm
  subst e
  exact h2 rfl
theorem et_not {a : Bool} (h1 : EvB K lk tt ρ a) : EvB K lk (tNot tt) ρ (!a) := fun w0 w σ s Q g => h1 w0 w σ s _ fun b w1 l1 ok1 e => g _ w1 l1 ok1 (by rw [e])
theorem et_yes : EvB K lk tYes ρ true := fun w0 w σ s Q g => g true w (.refl w) s.ok rfl
theorem ev_andV {a b : Bool} (h1 : EvD K lk ta ρ (.bl a)) (h2 : a = true → EvD K lk tb ρ (.bl b)) : EvD K lk (tAndV ta tb) ρ (.bl (a && b)) := fun w0 w σ s Q g => h1 w0 w σ s _ fun v w1 x l1 ok1 r1 e => by
  subst e
  refine ⟨a, r1, ?_⟩
  cases a with
  | true => exact h2 rfl w0 w1 σ (s.mono l1 ok1) Q (g.up l1)
  | false => exact (g.up l1).here (d := .bl false) ok1 rfl rfl
theorem ev_orV {a b : Bool} (h1 : EvD K lk ta ρ (.bl a)) (h2 : a = false → EvD K lk tb ρ (.bl b)) : EvD K lk (tOrV ta tb) ρ (.bl (a || b)) := fun w0 w σ s Q g => h1 w0 w σ s _ fun v w1 x l1 ok1 r1 e => by
  subst e
  refine ⟨a, r1, ?_⟩
  cases a with
  | false => exact h2 rfl w0 w1 σ (s.mono l1 ok1) Q (g.up l1)
  | true => exact (g.up l1).here (d := .bl true) ok1 rfl rfl
theorem ev_notV {a : Bool} (h1 : EvD K lk ta ρ (.bl a)) : EvD K lk (tNotV ta) ρ (.bl (!a)) := fun w0 w σ s Q g => h1 w0 w σ s _ fun v w1 x l1 ok1 r1 e => by
  subst e
  exact ⟨a, r1, (g.up l1).here (d := .bl (!a)) ok1 rfl rfl⟩
theorem ev_if' {T : Bool → Prop} (h : EvT K lk tt ρ T) (h1 : T true → EvS K lk ta ρ P) (h2 : T false → EvS K lk tb ρ P) : EvS K lk (tIf tt ta tb) ρ P := fun w0 w σ s Q g => h w0 w σ s _ fun b w1 l1 ok1 e => by
  cases b with
  | true => exact h1 e w0 w1 σ (s.mono l1 ok1) Q (g.up l1)
  | false => exact h2 e w0 w1 σ (s.mono l1 ok1) Q (g.up l1)
theorem ev_if {b : Bool} (h : EvB K lk tt ρ b) (h1 : b = true → EvS K lk ta ρ P) (h2 : b = false → EvS K lk tb ρ P) : EvS K lk (tIf tt ta tb) ρ P := ev_if' h (fun e => h1 e.symm) fun e => h2 e.symm
end
end RF

set_option Elab.async false
set_option linter.all false
set_option maxRecDepth 100000
set_option maxHeartbeats 4000000
set_option autoImplicit false
namespace RF
open PySem L2

/-! ### statements -/
structure Po where
  nx : List Sl → Prop
  rt : D → Prop
  bk : List Sl → Prop := fun _ => False
  ct : List Sl → Prop := fun _ => False
structure Fits (K : PySem.W.Frag) (lk : Bool) (w0 : Wd) (E : Ends) (p : Po) : Prop where
  nx : ∀ (σ : St) (w : Wd) (ρ : List Sl), Sr K lk w0 w σ ρ → p.nx ρ → E.nx σ w.H
  rt : ∀ (v : V) (w : Wd) (d : D), w0.le w → w.Ok → Rp K w.I d v → p.rt d → E.rt v w.H
  bk : ∀ (σ : St) (w : Wd) (ρ : List Sl), Sr K lk w0 w σ ρ → p.bk ρ → E.bk σ w.H
  ct : ∀ (σ : St) (w : Wd) (ρ : List Sl), Sr K lk w0 w σ ρ → p.ct ρ → E.ct σ w.H
def StS (K : PySem.W.Frag) (lk : Bool) (t : TS) (ρ : List Sl) (p : Po) : Prop := ∀ (w0 w : Wd) (σ : St) (E : Ends), Sr K lk w0 w σ ρ → Fits K lk w0 E p → t E σ w.H
/-- a target gets a datum; js: the slots that change -/
def SameBut (js : List Nat) (σ σ' : St) : Prop := σ'.length = σ.length ∧ ∀ i : Nat, i ∉ js → σ'[i]? = σ[i]?
def TgS (K : PySem.W.Frag) (lk : Bool) (g : TG) (js : List Nat) (x : D) (ρ ρ' : List Sl) : Prop := ∀ (w0 w : Wd) (σ : St) (v : V), Sr K lk w0 w σ ρ → Rp K w.I x v → ∀ Q : St → Hp → Prop, (∀ σ', (∀ w', Sr K lk w0 w' σ ρ → Same w.I w'.I → Sr K lk w0 w' σ' ρ') → SameBut js σ σ' → Q σ' w.H) → g v σ w.H Q
/-- an iterator, from a world on, gives these data -/
structure Yields (K : PySem.W.Frag) (w : Wd) (J : It) (xs : List D) : Prop where
  go : ∀ (i : Nat) (w' : Wd), w'.Ok → Same w.I w'.I → i < xs.length → J.go i w'.H
  yld : ∀ (i : Nat) (w' : Wd) (v : V) (H' : Hp), w'.Ok → Same w.I w'.I → J.yld i w'.H v H' → ∀ x, xs[i]? = some x → ∃ w2 : Wd, w2.H = H' ∧ w'.le w2 ∧ w2.Ok ∧ Rp K w2.I x v
  stop : ∀ (w' : Wd), w'.Ok → Same w.I w'.I → J.stop xs.length w'.H
def ItS (K : PySem.W.Frag) (lk : Bool) (wi : TI) (ρ : List Sl) (P : List D → Prop) : Prop := ∀ (w0 w : Wd) (σ : St), Sr K lk w0 w σ ρ → ∀ R : It → Hp → Prop, (∀ (J : It) (w' : Wd) (xs : List D), w.le w' → w'.Ok → P xs → Yields K w' J xs → R J w'.H) → wi σ w.H R

section
variable {K : PySem.W.Frag} {lk : Bool} {ρ : List Sl} {ta tb te : TE} {tt tu : TT} {A B P : D → Prop} {x y z d : D} {r : R2} {t u : TS} {p : Po} {g : TG} {wi : TI}
theorem Fits.up {w0 w1 : Wd} {E : Ends} (l : w0.le w1) (f : Fits K lk w0 E p) : Fits K lk w1 E p :=
  ⟨fun σ w ρ s h => f.nx σ w ρ (s.back l) h, fun v w d h ok r q => f.rt v w d (l.trans h) ok r q, fun σ w ρ s h => f.bk σ w ρ (s.back l) h, fun σ w ρ s h => f.ct σ w ρ (s.back l) h⟩
theorem StS.imp {q : Po} (h : StS K lk t ρ p) (h1 : ∀ r, p.nx r → q.nx r) (h2 : ∀ r, p.rt r → q.rt r) (h3 : ∀ r, p.bk r → q.bk r) (h4 : ∀ r, p.ct r → q.ct r) : StS K lk t ρ q := fun w0 w σ E s f =>
  h w0 w σ E s ⟨fun a b c d e => f.nx a b c d (h1 _ e), fun a b c d e g i => f.rt a b c d e g (h2 _ i), fun a b c d e => f.bk a b c d (h3 _ e), fun a b c d e => f.ct a b c d (h4 _ e)⟩
theorem st_next (h : p.nx ρ) : StS K lk tNext ρ p := fun w0 w σ E s f => f.nx σ w ρ s h
theorem st_break (h : p.bk ρ) : StS K lk tBreak ρ p := fun w0 w σ E s f => f.bk σ w ρ s h
theorem st_cont (h : p.ct ρ) : StS K lk tCont ρ p := fun w0 w σ E s f => f.ct σ w ρ s h
theorem st_seq (M : List Sl → Prop) (h : StS K lk t ρ { p with nx := M }) (k : ∀ ρ', M ρ' → StS K lk u ρ' p) : StS K lk (tSeq t u) ρ p := fun w0 w σ E s f =>
  h w0 w σ { E with nx := u E } s ⟨fun σ' w' ρ' s' m => k ρ' m w0 w' σ' E s' f, f.rt, f.bk, f.ct⟩
theorem st_ret (h : EvS K lk te ρ P) (k : ∀ d, P d → p.rt d) : StS K lk (tRet te) ρ p := fun w0 w σ E s f =>
  h w0 w σ s _ fun v w' d l ok r q => f.rt v w' d (s.le.trans l) ok r (k d q)
theorem st_asgG {js : List Nat} (h : EvS K lk te ρ P) (k : ∀ d, P d → ∃ ρ', TgS K lk g js d ρ ρ' ∧ p.nx ρ') : StS K lk (tAsg te g) ρ p := fun w0 w σ E s f =>
  h w0 w σ s _ fun v w' d l ok r q => by
    obtain ⟨ρ', tg, n⟩ := k d q
    exact tg w0 w' σ v (s.mono l ok) r _ fun σ' s' _ => f.nx σ' w' ρ' (s' w' (s.mono l ok) (Same.refl _)) n
theorem tg_name {i : Nat} : TgS K lk (gName i) [i] x ρ (ρ.set i (.dat x)) := fun w0 w σ v s r Q h => h _ (fun w' s' sm => s'.set i (r.mono sm)) ⟨List.length_set, fun j hj => by rw [List.getElem?_set_ne fun z => hj (by simp [z])]⟩
theorem st_asg {i : Nat} (h : EvS K lk te ρ P) (k : ∀ d, P d → p.nx (ρ.set i (.dat d))) : StS K lk (tAsg te (gName i)) ρ p := st_asgG h fun d q => ⟨_, tg_name, k d q⟩
/-- x = e, then the rest -/
theorem st_let {i : Nat} (h : EvS K lk te ρ P) (k : ∀ d, P d → StS K lk u (ρ.set i (.dat d)) p) : StS K lk (tSeq (tAsg te (gName i)) u) ρ p :=
  st_seq (fun ρ' => ∃ d, P d ∧ ρ' = ρ.set i (.dat d)) (st_asg h fun d q => ⟨d, q, rfl⟩) fun ρ' ⟨d, q, e⟩ => by rw [e]; exact k d q
theorem st_letD {i : Nat} (h : EvD K lk te ρ d) (k : StS K lk u (ρ.set i (.dat d)) p) : StS K lk (tSeq (tAsg te (gName i)) u) ρ p := st_let h fun _ e => by rw [e]; exact k
theorem st_letG {js : List Nat} (h : EvS K lk te ρ P) (k : ∀ d, P d → ∃ ρ', TgS K lk g js d ρ ρ' ∧ StS K lk u ρ' p) : StS K lk (tSeq (tAsg te g) u) ρ p :=
  st_seq (fun ρ' => StS K lk u ρ' p) (st_asgG h fun d q => k d q) fun ρ' h => h
theorem st_if' {T : Bool → Prop} (h : EvT K lk tt ρ T) (h1 : T true → StS K lk t ρ p) (h2 : T false → StS K lk u ρ p) : StS K lk (tIfS tt t u) ρ p := fun w0 w σ E s f => h w0 w σ s _ fun b w' l ok e => by
  cases b with
  | true => exact h1 e w0 w' σ E (s.mono l ok) f
  | false => exact h2 e w0 w' σ E (s.mono l ok) f
theorem st_if {b : Bool} (h : EvB K lk tt ρ b) (h1 : b = true → StS K lk t ρ p) (h2 : b = false → StS K lk u ρ p) : StS K lk (tIfS tt t u) ρ p := st_if' h (fun e => h1 e.symm) fun e => h2 e.symm
/-- an if, then the rest: each way goes on by itself -/
theorem st_ifq' {T : Bool → Prop} {v : TS} (h : EvT K lk tt ρ T) (h1 : T true → StS K lk (tSeq t v) ρ p) (h2 : T false → StS K lk (tSeq u v) ρ p) : StS K lk (tSeq (tIfS tt t u) v) ρ p := fun w0 w σ E s f => h w0 w σ s _ fun b w' l ok e => by
  cases b with
  | true => exact h1 e w0 w' σ E (s.mono l ok) f
  | false => exact h2 e w0 w' σ E (s.mono l ok) f
theorem st_ifq {b : Bool} {v : TS} (h : EvB K lk tt ρ b) (h1 : b = true → StS K lk (tSeq t v) ρ p) (h2 : b = false → StS K lk (tSeq u v) ρ p) : StS K lk (tSeq (tIfS tt t u) v) ρ p := st_ifq' h (fun e => h1 e.symm) fun e => h2 e.symm
theorem st_nextq (h : StS K lk u ρ p) : StS K lk (tSeq tNext u) ρ p := h
/-- what returns does not come to the rest -/
theorem st_retq (h : EvS K lk te ρ P) (k : ∀ d, P d → p.rt d) : StS K lk (tSeq (tRet te) u) ρ p := fun w0 w σ E s f =>
  h w0 w σ s _ fun v w' d l ok r q => f.rt v w' d (s.le.trans l) ok r (k d q)
theorem st_assoc {a b c : TS} (h : StS K lk (tSeq a (tSeq b c)) ρ p) : StS K lk (tSeq (tSeq a b) c) ρ p := h
theorem st_drop (h : EvS K lk te ρ P) (k : p.nx ρ) : StS K lk (tDrop te) ρ p := fun w0 w σ E s f =>
  h w0 w σ s _ fun v w' d l ok r q => f.nx σ w' ρ (s.mono l ok) k
/-! ### lists of the frame's own -/
theorem own_list {w0 w : Wd} {a : Addr} {xs : List D} {vs : List V} (ok : w.Ok) (h0 : w0.H a = none) (hi : w.I a = none) (ht : w.tp ≠ some a) (r : RpL K w.I xs vs) : OwnAt K w0 (w.put a (.lst vs)) (.lst xs) a :=
  ⟨h0, hi, ht, vs, upd_same, r⟩
theorem ars_len {w : Wd} : ∀ {as : List Ar} {vs : List V}, ArsOk K w as vs → vs.length = as.length
  | [], _, r => by rw [show _ = [] from r]; rfl
  | a :: as, _, ⟨v, s, e, r, q⟩ => by rw [e, List.length_cons, List.length_cons, ars_len q]
/-- x = [..], the list to be the frame's own -/
theorem st_own {i : Nat} {ta : TA} {ds : List D} (h : EvA K lk ta ρ (fun x => x = dats ds)) (k : StS K lk u (ρ.set i (.lst ds)) p) (hl : ds.length ≤ 1000 := by exact Nat.le_of_ble_eq_true rfl) : StS K lk (tSeq (tAsg (tLst ta) (gName i)) u) ρ p := fun w0 w σ E s f =>
  h w0 w σ s _ fun vs w1 as l1 ok1 r1 c => by
    subst c
    have r := ars_dats r1
    have s1 := s.mono l1 ok1
    refine ⟨by rw [r.length]; exact Nat.le_trans hl (by decide), fun a ha => ?_⟩
    exact k w0 (w1.put a (.lst vs)) _ E (s1.grow i True.intro ha (own_list ok1 (s1.le.dom a ha) (notI ok1 ha) (not_tape ok1 ha) r)) f
/-- xs.append(e) -/
theorem st_app' {i : Nat} {xs : List D} (hi : ρ[i]? = some (.lst xs)) (h : EvS K lk te ρ P) (hl : xs.length < 100000) (k : ∀ d, P d → p.nx (ρ.set i (.lst (xs ++ [d])))) :
    StS K lk (tDrop (tBM K "list" rAppend (tVar i) (tCons te tNil))) ρ p := fun w0 w σ E s f => by
  obtain ⟨a, ea, h0, hI, ht, vs, hH, r⟩ := s.sl i _ hi
  refine ⟨.ref a, ea, Or.inl ⟨rfl, vs, .inl (.inl hH)⟩, h w0 w σ s _ fun v w1 d l1 ok1 r1 c => ?_⟩
  have s1 := s.mono l1 ok1
  obtain ⟨a', ea', h0', hI', ht', vs', hH', r'⟩ := s1.sl i _ hi
  rw [ea] at ea'
  cases ea'
  refine ⟨a, vs', v, rfl, rfl, hH', by rw [r'.length]; exact Nat.lt_trans hl (by decide), ?_⟩
  exact f.nx σ (w1.put a (.lst (vs' ++ [v]))) _ (s1.own hi rfl ea (.lst (vs' ++ [v])) True.intro (own_list ok1 h0' hI' ht' (r'.snoc r1))) (k d c)
theorem st_app {i : Nat} {xs : List D} (hi : ρ[i]? = some (.lst xs)) (h : EvS K lk te ρ P) (hl : xs.length < 100000) (k : ∀ d, P d → StS K lk u (ρ.set i (.lst (xs ++ [d]))) p) :
    StS K lk (tSeq (tDrop (tBM K "list" rAppend (tVar i) (tCons te tNil))) u) ρ p := st_seq (fun ρ' => ∃ d, P d ∧ ρ' = ρ.set i (.lst (xs ++ [d]))) (st_app' hi h hl fun d q => ⟨d, q, rfl⟩) fun ρ' ⟨d, q, e⟩ => by rw [e]; exact k d q
/-- return xs, xs the frame's own -/
theorem st_retL {i : Nat} {xs : List D} (hi : ρ[i]? = some (.lst xs)) (k : p.rt (.lst xs)) : StS K lk (tRet (tVar i)) ρ p := fun w0 w σ E s f => by
  obtain ⟨a, ea, h0, hI, ht, vs, hH, r⟩ := s.sl i _ hi
  refine ⟨.ref a, ea, f.rt (.ref a) (w.fix a (.lst vs)) (.lst xs) (Wd.le_fix s.le h0 hI) (Wd.fix_ok s.ok hI hH ht) ?_ k⟩
  exact ⟨a, vs, rfl, .inl (.inl upd_same), r.mono (same_new hI)⟩
/-- tuple(xs), xs the frame's own -/
theorem ev_tupO {i : Nat} {xs : List D} (hi : ρ[i]? = some (.lst xs)) : EvD K lk (tCB (fun xs H Q => ∃ p ys, xs = [.ref p] ∧ ((SqL K H p ys ∧ ∀ l, H l = none → Q (.ref l) (upd H l (.tup ys))) ∨ (SqT K H p ys ∧ Q (.ref p) H))) (tCons (tVar i) tNil)) ρ (.tup xs) := fun w0 w σ s Q g => by
  obtain ⟨a, ea, h0, hI, ht, vs, hH, r⟩ := s.sl i _ hi
  exact ⟨.ref a, ea, a, vs, rfl, .inl ⟨.inl (.inl hH), fun l hl => g.new (d := .tup xs) s.ok hl True.intro ⟨l, vs, rfl, .inl (.inl upd_same), r.mono (same_new (notI s.ok hl))⟩ rfl⟩⟩
/-- a list of the frame's own is given up -/
theorem st_give {i : Nat} {xs : List D} (hi : ρ[i]? = some (.lst xs)) (k : StS K lk t (ρ.set i (.dat (.lst xs))) p) : StS K lk t ρ p := fun w0 w σ E s f => by
  obtain ⟨a, ea, h0, hI, ht, vs, hH, r⟩ := s.sl i _ hi
  have l : w0.le (w.fix a (.lst vs)) := Wd.le_fix s.le h0 hI
  have rr : Rp K (w.fix a (.lst vs)).I (.lst xs) (.ref a) := ⟨a, vs, rfl, .inl (.inl upd_same), r.mono (same_new hI)⟩
  refine k w0 (w.fix a (.lst vs)) σ E ⟨s.lk, l, Wd.fix_ok s.ok hI hH ht, by rw [List.length_set]; exact s.len, fun j t e => ?_, fun j m t t' b e1 e2 o1 o2 f1 f2 => ?_⟩ f
  · by_cases z : i = j
    · subst z
      rw [List.getElem?_set_self (List.getElem?_eq_some_iff.mp hi).1] at e
      cases e
      exact ⟨.ref a, ea, rr⟩
    · rw [List.getElem?_set_ne z] at e
      have q := s.sl j t e
      by_cases oj : isOwn t = true
      · obtain ⟨b, eb, ob⟩ := (SlOk.own oj).mp q
        have nb : b ≠ a := fun y => z (s.ap i j _ t a hi e rfl oj ea (by rw [← y]; exact eb))
        refine (SlOk.own oj).mpr ⟨b, eb, ob.mono ob.1 (same_new hI) rfl ?_ fun u hu => hu⟩
        show upd w.I a _ b = none
        rw [upd_ne nb]
        exact ob.2.1
      · cases t with
        | un => exact True.intro
        | dat d => obtain ⟨v, e3, r3⟩ := q; exact ⟨v, e3, r3.mono (same_new hI)⟩
        | tape => exact q
        | lst xs => exact absurd rfl oj
        | dk xs => exact absurd rfl oj
        | dt xs => exact absurd rfl oj
  · have other : ∀ {m : Nat} {t : Sl}, (ρ.set i (.dat (.lst xs)))[m]? = some t → isOwn t = true → ρ[m]? = some t := fun {m t} e o => by
      by_cases z : i = m
      · subst z
        rw [List.getElem?_set_self (List.getElem?_eq_some_iff.mp hi).1] at e
        cases e
        cases o
      · rw [List.getElem?_set_ne z] at e; exact e
    exact s.ap j m t t' b (other e1 o1) (other e2 o2) o1 o2 f1 f2
/-! ### targets -/
theorem tg_tup2 {i j : Nat} {a b : D} : TgS K lk (gTup K 2 (gCons (gName i) (gCons (gName j) gNil))) [i, j] (.tup [a, b]) ρ ((ρ.set i (.dat a)).set j (.dat b)) := fun w0 w σ v s r Q h => by
  obtain ⟨ad, xs, e, sq, x1, r1, e1, q1, x2, r2, e2, q2, e3⟩ := r
  subst e1 e2
  rw [show r2 = [] from e3] at sq
  refine ⟨ad, _, e, sqTH s.ok sq, rfl, x1, [x2], rfl, x2, [], rfl, rfl, h _ (fun w' s' sm => (s'.set i (q1.mono sm)).set j (q2.mono sm)) ⟨by rw [List.length_set, List.length_set], fun k hk => ?_⟩⟩
  rw [List.getElem?_set_ne fun z => hk (by simp [z]), List.getElem?_set_ne fun z => hk (by simp [z])]
theorem tg_tup3 {i j l : Nat} {a b c : D} : TgS K lk (gTup K 3 (gCons (gName i) (gCons (gName j) (gCons (gName l) gNil)))) [i, j, l] (.tup [a, b, c]) ρ (((ρ.set i (.dat a)).set j (.dat b)).set l (.dat c)) := fun w0 w σ v s r Q h => by
  obtain ⟨ad, xs, e, sq, x1, r1, e1, q1, x2, r2, e2, q2, x3, r3, e3, q3, e4⟩ := r
  subst e1 e2 e3
  rw [show r3 = [] from e4] at sq
  refine ⟨ad, _, e, sqTH s.ok sq, rfl, x1, [x2, x3], rfl, x2, [x3], rfl, x3, [], rfl, rfl, h _ (fun w' s' sm => ((s'.set i (q1.mono sm)).set j (q2.mono sm)).set l (q3.mono sm)) ⟨by rw [List.length_set, List.length_set, List.length_set], fun k hk => ?_⟩⟩
  rw [List.getElem?_set_ne fun z => hk (by simp [z]), List.getElem?_set_ne fun z => hk (by simp [z]), List.getElem?_set_ne fun z => hk (by simp [z])]
/-! ### what is walked -/
theorem it_list {xs : List D} (h : EvD K lk te ρ (.lst xs)) : ItS K lk (iList K te) ρ (fun ys => ys = xs) := fun w0 w σ s R k => h w0 w σ s _ fun v w1 d l1 ok1 r1 e => by
  subst e
  obtain ⟨a, vs, e, sq, r⟩ := r1
  refine ⟨a, e, ⟨vs, sqLH ok1 sq⟩, k _ w1 xs l1 ok1 rfl ⟨fun i w' ok' sm hi => ?_, fun i w' v' H' ok' sm y x hx => ?_, fun w' ok' sm => ?_⟩⟩
  · have hi' : i < vs.length := by rw [r.length]; exact hi
    exact ⟨vs, vs[i], sqLH ok' (sqL_keeps (.of_same sm) sq), List.getElem?_eq_getElem hi'⟩
  · obtain ⟨e', y⟩ := y
    obtain ⟨u, hu, ru⟩ := r.get hx
    have z := y vs (sqLH ok' (sqL_keeps (.of_same sm) sq))
    rw [hu] at z
    cases z
    exact ⟨w', e'.symm, .refl w', ok', ru.mono sm⟩
  · exact ⟨vs, sqLH ok' (sqL_keeps (.of_same sm) sq), Nat.le_of_eq r.length⟩
theorem it_tup {xs : List D} (h : EvD K lk te ρ (.tup xs)) : ItS K lk (iTup K te) ρ (fun ys => ys = xs) := fun w0 w σ s R k => h w0 w σ s _ fun v w1 d l1 ok1 r1 e => by
  subst e
  obtain ⟨a, vs, e, sq, r⟩ := r1
  refine ⟨a, e, ⟨vs, sqTH ok1 sq⟩, k _ w1 xs l1 ok1 rfl ⟨fun i w' ok' sm hi => ?_, fun i w' v' H' ok' sm y x hx => ?_, fun w' ok' sm => ?_⟩⟩
  · have hi' : i < vs.length := by rw [r.length]; exact hi
    exact ⟨vs, vs[i], sqTH ok' (sqT_keeps (.of_same sm) sq), List.getElem?_eq_getElem hi'⟩
  · obtain ⟨e', y⟩ := y
    obtain ⟨u, hu, ru⟩ := r.get hx
    have z := y vs (sqTH ok' (sqT_keeps (.of_same sm) sq))
    rw [hu] at z
    cases z
    exact ⟨w', e'.symm, .refl w', ok', ru.mono sm⟩
  · exact ⟨vs, sqTH ok' (sqT_keeps (.of_same sm) sq), Nat.le_of_eq r.length⟩
/-- lo, lo + 1, .., n of them -/
def rangeD (lo : Int) (n : Nat) : List D := (List.range n).map fun i => D.int (lo + (i : Nat))
theorem rangeD_len (lo : Int) (n : Nat) : (rangeD lo n).length = n := by unfold rangeD; rw [List.length_map, List.length_range]
theorem rangeD_get {lo : Int} {n i : Nat} (h : i < n) : (rangeD lo n)[i]? = some (.int (lo + (i : Nat))) := by
  unfold rangeD
  rw [List.getElem?_map, List.getElem?_range h]
  rfl
theorem yields_range {w : Wd} (lo : Int) (n : Nat) : Yields K w (Itr lo n) (rangeD lo n) := by
  refine ⟨fun i w' ok' sm hi => ?_, fun i w' v' H' ok' sm y x hx => ?_, fun w' ok' sm => ?_⟩
  · rw [rangeD_len] at hi; exact hi
  · obtain ⟨e', y⟩ := y
    have hi : i < n := by
      have := (List.getElem?_eq_some_iff.mp hx).1
      rw [rangeD_len] at this
      exact this
    rw [rangeD_get hi] at hx
    cases hx
    exact ⟨w', e'.symm, .refl w', ok', y⟩
  · rw [rangeD_len]; exact Nat.le_refl n
theorem it_range1 {ta : TA} {n : Int} (h : EvA K lk ta ρ (fun x => x = [.d (.int n)])) (h0 : -100000 ≤ n) (h1 : n ≤ 100000) : ItS K lk (iRng1 ta) ρ (fun ys => ys = rangeD 0 n.toNat) := fun w0 w σ s R k => h w0 w σ s _ fun vs w1 as l1 ok1 r1 e => by
  subst e
  obtain ⟨v, e, r⟩ := ars_one r1
  exact ⟨n, by rw [e, show v = .int n from r], by omega, by omega, k _ w1 _ l1 ok1 rfl (yields_range 0 n.toNat)⟩
theorem it_range2 {ta : TA} {lo n : Int} (h : EvA K lk ta ρ (fun x => x = [.d (.int lo), .d (.int n)])) (h0 : -100000 ≤ lo ∧ lo ≤ 100000) (h1 : -100000 ≤ n ∧ n ≤ 100000) : ItS K lk (iRng2 ta) ρ (fun ys => ys = rangeD lo (n - lo).toNat) := fun w0 w σ s R k => h w0 w σ s _ fun vs w1 as l1 ok1 r1 e => by
  subst e
  obtain ⟨v, u, e, rv, ru⟩ := ars_two r1
  exact ⟨lo, n, by rw [e, show v = .int lo from rv, show u = .int n from ru], ⟨by omega, by omega, by omega, by omega⟩, k _ w1 _ l1 ok1 rfl (yields_range lo (n - lo).toNat)⟩
/-! ### for -/
theorem st_for {js : List Nat} {X : List D → Prop} (hi : ItS K lk wi ρ X) (Iv : List D → Nat → List Sl → Prop) (h0 : ∀ xs, X xs → Iv xs 0 ρ)
    (hs : ∀ (xs : List D) (i : Nat) (x : D) (ρ1 : List Sl), X xs → xs[i]? = some x → Iv xs i ρ1 → ∃ ρ2, TgS K lk g js x ρ1 ρ2 ∧ StS K lk t ρ2 { nx := Iv xs (i + 1), ct := Iv xs (i + 1), bk := p.nx, rt := p.rt })
    (hd : ∀ xs ρ', X xs → Iv xs xs.length ρ' → p.nx ρ') : StS K lk (tFor wi g t) ρ p := fun w0 w σ E s f =>
  hi w0 w σ s _ fun J w1 xs l1 ok1 hX Y => by
    have s1 := (s.mono l1 ok1).rebase
    have lb : w0.le (w0.up w1) := Wd.le_up (s.le.trans l1) ok1
    have f1 := f.up lb
    refine ⟨fun i m σ' H' => m = xs.length - i ∧ i ≤ xs.length ∧ ∃ w' ρ', w'.H = H' ∧ Sr K lk (w0.up w1) w' σ' ρ' ∧ Iv xs i ρ', ⟨xs.length, by simp, Nat.zero_le _, w1, ρ, rfl, s1, h0 xs hX⟩, ?_⟩
    rintro i m σ' H' ⟨rfl, hle, w', ρ', rfl, s', iv⟩
    have sm : Same w1.I w'.I := s'.le.I
    by_cases hlt : i < xs.length
    · refine .inr ⟨Y.go i w' s'.ok sm hlt, fun σ2 H2 => ∃ w2 ρ2, w2.H = H2 ∧ Sr K lk (w0.up w1) w2 σ2 ρ2 ∧ Iv xs (i + 1) ρ2, fun σ2 H2 ⟨w2, ρ2, e2, s2, iv2⟩ => ⟨xs.length - (i + 1), by omega, rfl, hlt, w2, ρ2, e2, s2, iv2⟩, fun v H2 y => ?_⟩
      have hx : xs[i]? = some xs[i] := List.getElem?_eq_getElem hlt
      obtain ⟨w2, rfl, l2, ok2, r2⟩ := Y.yld i w' v H2 s'.ok sm y _ hx
      obtain ⟨ρ2, tg, st⟩ := hs xs i _ ρ' hX hx iv
      refine tg _ w2 σ' v (s'.mono l2 ok2) r2 _ fun σ3 st3 _ => ?_
      have s3 := st3 w2 (s'.mono l2 ok2) (Same.refl _)
      refine st _ w2 σ3 _ s3 ⟨fun σ4 w4 ρ4 s4 q => ⟨w4, ρ4, rfl, s4, q⟩, f1.rt, fun σ4 w4 ρ4 s4 q => f1.nx σ4 w4 ρ4 s4 q, fun σ4 w4 ρ4 s4 q => ⟨w4, ρ4, rfl, s4, q⟩⟩
    · have e : i = xs.length := by omega
      subst e
      exact .inl ⟨Y.stop w' s'.ok sm, f1.nx σ' w' ρ' s' (hd xs ρ' hX iv)⟩
/-- over known data, by an invariant of the slots -/
theorem st_forD {js : List Nat} {xs : List D} (hi : ItS K lk wi ρ (fun ys => ys = xs)) (Iv : Nat → List Sl → Prop) (h0 : Iv 0 ρ)
    (hs : ∀ (i : Nat) (x : D) (ρ1 : List Sl), xs[i]? = some x → Iv i ρ1 → ∃ ρ2, TgS K lk g js x ρ1 ρ2 ∧ StS K lk t ρ2 { nx := Iv (i + 1), ct := Iv (i + 1), bk := p.nx, rt := p.rt })
    (hd : ∀ ρ', Iv xs.length ρ' → p.nx ρ') : StS K lk (tFor wi g t) ρ p :=
  st_for (js := js) hi (fun _ => Iv) (fun _ _ => h0) (fun ys i x ρ1 e hx iv => hs i x ρ1 (by rw [← show ys = xs from e]; exact hx) iv) fun ys ρ' e iv => hd ρ' (by rw [← show ys = xs from e]; exact iv)
/-- .. then the rest -/
theorem st_forq {js : List Nat} {xs : List D} (hi : ItS K lk wi ρ (fun ys => ys = xs)) (Iv : Nat → List Sl → Prop) (h0 : Iv 0 ρ)
    (hs : ∀ (i : Nat) (x : D) (ρ1 : List Sl), xs[i]? = some x → Iv i ρ1 → ∃ ρ2, TgS K lk g js x ρ1 ρ2 ∧ StS K lk t ρ2 { nx := Iv (i + 1), ct := Iv (i + 1), bk := Iv xs.length, rt := p.rt })
    (hd : ∀ ρ', Iv xs.length ρ' → StS K lk u ρ' p) : StS K lk (tSeq (tFor wi g t) u) ρ p :=
  st_seq (fun ρ' => Iv xs.length ρ') (st_forD (js := js) hi Iv h0 hs fun ρ' h => h) hd
/-! ### while -/
theorem st_while (W : Nat → List Sl → Prop) (m0 : Nat) (h0 : W m0 ρ)
    (hs : ∀ m ρ', W m ρ' → ∃ b, EvB K lk tt ρ' b ∧ (b = true → StS K lk t ρ' { nx := fun ρ2 => ∃ m', m' < m ∧ W m' ρ2, ct := fun ρ2 => ∃ m', m' < m ∧ W m' ρ2, bk := p.nx, rt := p.rt }) ∧ (b = false → p.nx ρ')) : StS K lk (tWhile tt t) ρ p := fun w0 w σ E s f => by
  refine ⟨fun m σ' H' => ∃ w' ρ', w'.H = H' ∧ Sr K lk w0 w' σ' ρ' ∧ W m ρ', ⟨m0, w, ρ, rfl, s, h0⟩, ?_⟩
  rintro m σ' H' ⟨w', ρ', rfl, s', hw⟩
  obtain ⟨b, hb, h1, h2⟩ := hs m ρ' hw
  refine hb w0 w' σ' s' _ fun c w2 l2 ok2 e => ?_
  subst e
  cases c with
  | true => exact ⟨fun σ2 H2 => ∃ m', m' < m ∧ ∃ w3 ρ3, w3.H = H2 ∧ Sr K lk w0 w3 σ2 ρ3 ∧ W m' ρ3, fun σ2 H2 h => h, h1 rfl w0 w2 σ' _ (s'.mono l2 ok2) ⟨fun σ4 w4 ρ4 s4 ⟨m', hm, q⟩ => ⟨m', hm, w4, ρ4, rfl, s4, q⟩, f.rt, f.nx, fun σ4 w4 ρ4 s4 ⟨m', hm, q⟩ => ⟨m', hm, w4, ρ4, rfl, s4, q⟩⟩⟩
  | false => exact f.nx σ' w2 ρ' (s'.mono l2 ok2) (h2 rfl)
/-! ### list comprehensions -/
theorem wipe_at (σ : St) : ∀ (vs : List Nat) (i : Nat), (L2.wipe σ vs)[i]? = if i ∈ vs then (if i < σ.length then some none else none) else σ[i]?
  | [], i => by simp [L2.wipe]
  | v :: vs, i => by
    unfold L2.wipe
    by_cases e : v = i
    · subst e
      rw [if_pos (by simp)]
      by_cases h : v < σ.length
      · rw [List.getElem?_set_self (by rw [wipe_length]; exact h), if_pos h]
      · rw [if_neg h, List.getElem?_eq_none (by rw [List.length_set, wipe_length]; omega)]
    · rw [List.getElem?_set_ne e, wipe_at σ vs i]
      by_cases h : i ∈ vs
      · rw [if_pos h, if_pos (List.mem_cons_of_mem _ h)]
      · rw [if_neg h, if_neg (by simp [h]; exact fun z => e z.symm)]
theorem wipe_same {σ σ2 : St} {js vs : List Nat} (h : SameBut js (L2.wipe σ vs) σ2) (hj : ∀ j ∈ js, j ∈ vs) : L2.wipe σ2 vs = L2.wipe σ vs := by
  have hl : σ2.length = σ.length := by rw [h.1, wipe_length]
  refine List.ext_getElem? fun i => ?_
  rw [wipe_at, wipe_at, hl]
  by_cases e : i ∈ vs
  · rw [if_pos e, if_pos e]
  · rw [if_neg e, if_neg e, h.2 i fun z => e (hj i z), wipe_at, if_neg e]
theorem ev_lc {js vs : List Nat} {X : List D → Prop} (hi : ItS K lk wi ρ X) (Acc : List D → Nat → List D → Prop) (h0 : ∀ xs, X xs → Acc xs 0 []) (hl : ∀ xs, X xs → xs.length ≤ 10000000) (hj : ∀ j ∈ js, j ∈ vs)
    (turn : ∀ (xs : List D) (i : Nat) (x : D) (ys : List D), X xs → xs[i]? = some x → Acc xs i ys → ∃ ρ2 T, TgS K lk g js x (wipeS ρ vs) ρ2 ∧ EvT K lk tt ρ2 T ∧ (T false → Acc xs (i + 1) ys) ∧ (T true → EvS K lk te ρ2 (fun d => Acc xs (i + 1) (ys ++ [d]))))
    (fin : ∀ xs ys, X xs → Acc xs xs.length ys → P (.lst ys)) : EvS K lk (tLc wi g tt te vs) ρ P := fun w0 w σ s Q gq =>
  hi w0 w σ s _ fun J w1 xs l1 ok1 hX Y Dl hD => by
    have s1 := s.mono l1 ok1
    have tpD : w1.tp ≠ some Dl := not_tape ok1 hD
    have hDI : w1.I Dl = none := notI ok1 hD
    refine ⟨fun i m H' => m = xs.length - i ∧ i ≤ xs.length ∧ ∃ w' ys us, w'.H = H' ∧ w1.le w' ∧ w'.Ok ∧ w'.I Dl = none ∧ w'.H Dl = some (.lst us) ∧ RpL K w'.I ys us ∧ Acc xs i ys ∧ us.length ≤ i,
      ⟨xs.length, by simp, Nat.zero_le _, w1.put Dl (.lst []), [], [], rfl, Wd.le_put (.refl w1) hD, Wd.put_ok ok1 hDI tpD True.intro, hDI, upd_same, rfl, h0 xs hX, Nat.le_refl _⟩, ?_⟩
    rintro i m H' ⟨rfl, hle, w', ys, us, rfl, l', ok', hI', hH', r', acc, hus⟩
    by_cases hlt : i < xs.length
    · have hx : xs[i]? = some xs[i] := List.getElem?_eq_getElem hlt
      obtain ⟨ρ2, T, tg, ht, hf, he⟩ := turn xs i _ ys hX hx acc
      refine .inr ⟨Y.go i w' ok' l'.I hlt, fun H2 => ∃ w2 zs ws, w2.H = H2 ∧ w1.le w2 ∧ w2.Ok ∧ w2.I Dl = none ∧ w2.H Dl = some (.lst ws) ∧ RpL K w2.I zs ws ∧ Acc xs (i + 1) zs ∧ ws.length ≤ i + 1,
        fun H2 ⟨w2, zs, ws, e2, q⟩ => ⟨xs.length - (i + 1), by omega, rfl, hlt, w2, zs, ws, e2, q⟩, fun v H2 y => ?_⟩
      obtain ⟨w2, rfl, l2, ok2, r2⟩ := Y.yld i w' v H2 ok' l'.I y _ hx
      have l12 := l'.trans l2
      have keepD : ∀ {wa : Wd}, w'.le wa → wa.I Dl = none ∧ wa.H Dl = some (.lst us) := fun {wa} la => ⟨la.fr Dl hI' (by rw [hH']; exact fun z => nomatch z), la.H Dl _ hH' (by rw [l'.tp]; exact tpD)⟩
      have sw2 := (s1.mono l12 ok2).wipe vs
      refine tg w0 w2 _ v sw2 r2 _ fun σ3 st3 sb => ⟨wipe_same sb hj, ht w0 w2 σ3 (st3 w2 sw2 (Same.refl _)) _ fun b w3 l3 ok3 eb => ?_⟩
      have s3 := st3 w2 sw2 (Same.refl _)
      have l23 := l2.trans l3
      cases b with
      | false =>
        exact ⟨w3, ys, us, rfl, l'.trans l23, ok3, (keepD l23).1, (keepD l23).2, r'.mono l23.I, hf eb, Nat.le_succ_of_le hus⟩
      | true =>
        refine he eb w0 w3 σ3 (s3.mono l3 ok3) _ fun vv w4 d l4 ok4 r4 ac => ?_
        have l24 := l23.trans l4
        obtain ⟨i4, h4⟩ := keepD l24
        have lt4 : us.length < sizeLine := Nat.lt_of_lt_of_le (Nat.lt_of_le_of_lt hus (Nat.lt_of_lt_of_le hlt (hl xs hX))) (by decide)
        refine ⟨us, h4, lt4, w4.put Dl (.lst (us ++ [vv])), ys ++ [d], us ++ [vv], rfl, Wd.le_put (l'.trans l24) hD, Wd.put_ok ok4 i4 (by rw [l24.tp, l'.tp]; exact tpD) True.intro, i4, upd_same, (r'.mono l24.I).snoc r4, ac, ?_⟩
        rw [List.length_append]
        exact Nat.succ_le_succ hus
    · have e : i = xs.length := by omega
      subst e
      refine .inl ⟨Y.stop w' ok' l'.I, gq (.ref Dl) (w'.fix Dl (.lst us)) (.lst ys) (Wd.le_fix (l1.trans l') (l1.dom Dl hD) hI') (Wd.fix_ok ok' hI' hH' (by rw [l'.tp]; exact tpD)) ?_ (fin xs ys hX acc)⟩
      exact ⟨Dl, us, rfl, .inl (.inl upd_same), r'.mono (same_new hI')⟩
/-- the same items picked and turned by plain functions -/
theorem filter_take_succ {α β : Type} {xs : List α} {i : Nat} {x : α} (f : α → Bool) (v : α → β) (h : xs[i]? = some x) : ((xs.take (i + 1)).filter f).map v = ((xs.take i).filter f).map v ++ (if f x then [v x] else []) := by
  rw [List.take_add_one, h, List.filter_append, List.map_append]
  congr 1
  show (([x] : List α).filter f).map v = _
  by_cases e : f x = true
  · rw [List.filter_cons, if_pos e, if_pos e]; rfl
  · rw [List.filter_cons, if_neg e, if_neg e]; rfl
theorem ev_lcD {js vs : List Nat} {xs : List D} (hi : ItS K lk wi ρ (fun ys => ys = xs)) (f : D → Bool) (v : D → D) (hl : xs.length ≤ 10000000) (hj : ∀ j ∈ js, j ∈ vs)
    (turn : ∀ (i : Nat) (x : D), xs[i]? = some x → ∃ ρ2, TgS K lk g js x (wipeS ρ vs) ρ2 ∧ EvB K lk tt ρ2 (f x) ∧ (f x = true → EvD K lk te ρ2 (v x))) : EvD K lk (tLc wi g tt te vs) ρ (.lst ((xs.filter f).map v)) :=
  ev_lc (js := js) hi (fun _ i ys => ys = ((xs.take i).filter f).map v) (fun _ _ => by simp) (fun ys e => by rw [show ys = xs from e]; exact hl) hj
    (fun ys i x acc e hx ha => by
      rw [show ys = xs from e] at hx
      obtain ⟨ρ2, tg, ht, hv⟩ := turn i x hx
      refine ⟨ρ2, _, tg, ht, fun z => ?_, fun z => (hv z.symm).imp fun d ed => ?_⟩
      · rw [filter_take_succ f v hx, if_neg (by rw [← z]; decide), List.append_nil]; exact ha
      · rw [filter_take_succ f v hx, if_pos z.symm, ha, ed])
    fun ys zs e ha => by
      rw [show ys = xs from e, List.take_length] at ha
      rw [ha]
end
end RF

set_option Elab.async false
set_option linter.all false
set_option maxRecDepth 100000
set_option maxHeartbeats 4000000
set_option autoImplicit false
namespace RF
open PySem PySem.Spec L2

/-! ### tuples made with their object known: no dict of their own -/
def tTupF (t : TA) : TE := fun σ H Q => t σ H fun xs H1 => xs.length ≤ sizeLine ∧ ∀ p o, H1 p = none → o.dict = none → Q (.ref p) (upd H1 p (.frz o (.tup xs)))
def rCatF (K : PySem.W.Frag) : R2 := fun x y H Q => ∃ a b xs ys, x = .ref a ∧ y = .ref b ∧ SqT K H a xs ∧ SqT K H b ys ∧ xs.length + ys.length ≤ sizeLine ∧
  (xs = [] → Q (.ref b) H) ∧ (ys = [] → Q (.ref a) H) ∧ ∀ p o, H p = none → o.dict = none → Q (.ref p) (upd H p (.frz o (.tup (xs ++ ys))))
def rSlF (K : PySem.W.Frag) : V → Option Int → Option Int → Hp → VK → Prop := fun x lo hi H Q => ∃ a xs, x = .ref a ∧ SqT K H a xs ∧
  (HT.sIx xs.length 0 lo = 0 ∧ HT.sIx xs.length xs.length hi = xs.length → Q (.ref a) H) ∧ ∀ p o, H p = none → o.dict = none → Q (.ref p) (upd H p (.frz o (.tup (cutV xs lo hi))))
def rTupF (K : PySem.W.Frag) : List V → Hp → VK → Prop := fun xs H Q => ∃ p ys, xs = [.ref p] ∧ SqL K H p ys ∧ ∀ l o, H l = none → o.dict = none → Q (.ref l) (upd H l (.frz o (.tup ys)))
section
variable {X : Cx} {es : List Expr} {t : TA} {pos : Pos}
theorem pe_tupF {x1 : Nat} (h : PA X es t) : PE X (.Tuple es x1 pos) (tTupF t) := by
  refine ⟨fun pins s σ H Q I hq => ?_⟩
  refine wpAny_Tuple_spliced (thn (h.run pos pins s σ H _ I hq) fun us s1 hu => ?_)
  obtain ⟨xs, H1, I1, r, z, q⟩ := hu
  refine ⟨by rw [← r.length]; exact z, .ref s1.heap.objs.size, _, I1.laid (t' := s1.toks) (o := .frz _ (.tup xs)) (fun b u e => Heap.get?_push_of_some _ e) (Nat.le_refl _) ⟨Heap.get?_push_size _ rfl, z, us, r, ⟨_, Heap.get?_push_size _ rfl, rfl, _, rfl⟩⟩, rfl, q _ _ (I1.hok.fresh (Nat.le_refl _)) rfl⟩
theorem op_catF : OpR X (binaryOp .Add) (rCatF X.K) := by
  intro pins s σ H x y v u Q I rx ry h
  obtain ⟨a, b, xs, ys, rfl, rfl, ha, hb, hz, q0, q1, q2⟩ := h
  cases rx
  cases ry
  obtain ⟨its, r1, p1, _⟩ := I.tuple ha
  obtain ⟨its2, r2, p2, _⟩ := I.tuple hb
  by_cases hx : xs = []
  · subst hx
    cases r1
    exact cat_tup0 p1 p2 ⟨.ref b, H, I, rfl, q0 rfl⟩
  · refine HT.cat_tup p1 p2 (fun z => hx (r1.nil_iff.mp z)) (fun z => ⟨.ref a, H, I, rfl, q1 (r2.nil_iff.mp z)⟩) (fun z => ?_) (by rw [← r1.length, ← r2.length]; exact hz)
    refine ⟨.ref s.heap.objs.size, _, I.laid (t' := s.toks) (o := .frz _ (.tup (xs ++ ys))) (fun b ob q => Heap.get?_push_of_some _ q) (Nat.le_refl _) ⟨Heap.get?_push_size _ rfl, by rw [List.length_append]; exact hz, _, r1.append r2, PyProof.Rows.IsTup.new _ _⟩, rfl, q2 _ _ (I.hok.fresh (Nat.le_refl _)) rfl⟩
theorem sl_tupF : SlR X (rSlF X.K) := by
  intro pins s σ H x v vl vu lo hi sl Q I rx hs pl pu h
  obtain ⟨a, xs, rfl, hx, q1, q2⟩ := h
  cases rx
  obtain ⟨its, r, ht, hz⟩ := I.tuple hx
  have hlen : its.toArray.size = xs.length := by rw [List.size_toArray]; exact r.length.symm
  refine ⟨"tuple", _, PyProof.Rows.slot_tuple_getitem.lookup, ht.typeIs, ?_⟩
  by_cases hw : HT.sIx xs.length 0 lo = 0 ∧ HT.sIx xs.length xs.length hi = xs.length
  · exact getItem_tuple_whole ht hs pl pu (by rw [hlen]; exact hw) ⟨.ref a, H, I, rfl, q1 hw⟩
  · refine HT.getItem_tuple_cut ht hs pl pu (by rw [hlen]; exact hw) ?_ (by rw [hlen]; exact hz)
    rw [hlen]
    refine ⟨.ref s.heap.objs.size, _, I.laid (t' := s.toks) (o := .frz _ (.tup (cutV xs lo hi))) (fun b ob q => Heap.get?_push_of_some _ q) (Nat.le_refl _) ⟨Heap.get?_push_size _ rfl, Nat.le_trans (cutV_length xs lo hi) hz, _, (r.drop (HT.sIx xs.length 0 lo)).take (HT.sIx xs.length xs.length hi - HT.sIx xs.length 0 lo), PyProof.Rows.IsTup.new _ _⟩, rfl, q2 _ _ (I.hok.fresh (Nat.le_refl _)) rfl⟩
theorem cu_tupF : CallR X (.type "tuple") (rTupF X.K) := by
  intro pins s σ H xs us Q I r h
  obtain ⟨p, ys, rfl, hq, q⟩ := h
  obtain ⟨u, rfl, rx⟩ := vals1 r
  cases rx
  obtain ⟨its, r', pl, hz⟩ := I.list hq
  have hlen := r'.length
  refine call_tuple_list pl.isList (fun h' kp => ?_) (by simp only [List.size_toArray] <;> omega)
  have I1 : Inv X pins σ H { s with heap := h' } := I.kept (t' := s.toks) kp
  exact ⟨.ref h'.objs.size, _, I1.laid (t' := s.toks) (o := .frz _ (.tup ys)) (fun b o e => Heap.get?_push_of_some _ e) (Nat.le_refl _) ⟨Heap.get?_push_size _ rfl, hz, its, r', PyProof.Rows.IsTup.new _ _⟩, rfl, q _ _ (I1.hok.fresh (Nat.le_refl _)) rfl⟩
end

/-! ### t.count(s) of texts -/
theorem strs_dp {K : PySem.W.Frag} {H : Hp} : ∀ ss : List Str, DpAll K H (ss.map V.str) (ss.map PyData.str)
  | [] => .nil
  | s :: ss => .cons (.str s) (strs_dp ss)
theorem strs_plain : ∀ ss : List Str, PyData.plainAll (ss.map PyData.str) = true
  | [] => rfl
  | s :: ss => by rw [List.map_cons, PyData.plainAll, strs_plain ss]; rfl
theorem strs_count (s : Str) : ∀ ss : List Str, (ss.map PyData.str).countP (fun y => PyData.eqv y (.str s)) = ss.count s
  | [] => rfl
  | t :: ss => by
    rw [List.map_cons, List.countP_cons, List.count_cons, strs_count s ss]
    congr 1
theorem strs_depth : ∀ ss : List Str, PyData.depthAll (ss.map PyData.str) = 0
  | [] => rfl
  | s :: ss => by rw [List.map_cons, PyData.depthAll, strs_depth ss]; rfl
/-- t.count(s), t's object known -/
def tCount (ta : TE) (t : TA) : TE := fun σ H Q => ta σ H fun x H1 => ∃ (a : Addr) (o : Obj) (ss : List Str), x = .ref a ∧ H1 a = some (.frz o (.tup (ss.map V.str))) ∧ o.dict = none ∧
  t σ H1 fun ys H2 => ∃ s, ys = [.str s] ∧ H2 a = some (.frz o (.tup (ss.map V.str))) ∧ Q (.int ((ss.count s : Nat) : Int)) H2
theorem pu_count {X : Cx} {k : Nat} {o e : Expr} {apos cpos : Pos} {ta : TE} {t : TA} (hr : Room k X.A) (ho : PE X o ta) (ha : PA X [e] t)
    (hbase : attributeBase o "count" X.env (eval o X.env) = eval o X.env := by rfl) (hline : (apos.endLine == cpos.line) = true := by rfl)
    (hfew : ((backTo cpos (starEach [e] X.env)).all (fun x => !x.1) && (backToKw cpos (keywordEach [] X.env)).all (fun x => x.1.isSome) && decide ([e].length + ([] : List Keyword).length + (if ([] : List Keyword).isEmpty then 0 else 1) < 30)) = true := by rfl)
    (hs : starEach [e] X.env = [(false, eval e X.env)] := by rfl) : PE X (.Call (.Attribute o "count" apos) [e] [] cpos) (tCount ta t) := by
  refine ⟨fun pins s σ H Q I h => ?_⟩
  refine wpAny_Call_method (T := "tuple") (id := "tuple.count") hbase hfew hline PySem.F.plainAttrs_tuple PySem.F.slot_tuple_count PySem.F.type_tuple_count (thn (ho.run pins s σ H _ I h) fun v s1 hv => ?_)
  obtain ⟨x, H1, I1, rx, a, ob, ss, rfl, hH, hd, q⟩ := hv
  cases rx
  obtain ⟨hob, hz, its, rv, ht⟩ := I1.hok a _ hH
  refine ⟨ht.typeIs, fun b eb => ?_, ?_⟩
  · cases eb
    exact ⟨ob, hob, hd⟩
  · have hA := ha.run cpos pins s1 σ H1 _ I1 q
    rw [hs] at hA ⊢
    refine Calls.callWith_builtin (by rfl) (Calls.evalArgs_plain (thn hA fun us s2 hu => ?_))
    obtain ⟨vs, H2, I2, r2, z, rfl, hH2, q2⟩ := hu
    obtain ⟨u, rfl, ru⟩ := vals1 r2
    obtain ⟨tk, rfl⟩ := ru
    obtain ⟨its2, rv2, ht2, _⟩ := I2.tuple (.inl (.inr ⟨ob, hH2⟩) : SqT X.K H2 a (ss.map V.str))
    obtain ⟨as, r1⟩ := Dp.readsAll I2 _ _ its2 (strs_dp ss) rv2
    have hu := hr.units
    refine SeqAt.count_tuple_data (show s2.heap.IsTuple a its2.toArray from ht2) (by simpa using r1) (Reads.str z tk) (strs_plain ss) rfl (by rw [strs_depth]; show X.A.units + 1 + min 0 _ < _; omega) ?_
    rw [strs_count]
    exact ⟨.int _, H2, I2.tok _, ⟨_, rfl⟩, q2⟩
end RF

set_option Elab.async false
set_option linter.all false
set_option maxRecDepth 100000
set_option maxHeartbeats 4000000
set_option autoImplicit false
namespace RF
open PySem PySem.Spec L2

/-! ### enumerate(t), a tuple -/
theorem enum_new1 {v : Value} {o : Obj} {Hq : Heap → Prop} (B : Begins v o Hq) :
    Meets (Builtin.«enumerate.__new__» ⟨[.type "enumerate", v], []⟩) (fun _ R s => Hq s.heap ∧
      R (.ok (.ret (.ref (s.heap.push o).objs.size))) { s with heap := (s.heap.push o).push { cls := .type "enumerate", data := .fields #[.none, .bool false, .ref s.heap.objs.size, rawInt 0, .none, .none] } }) :=
  .of_wp fun prog w A R s h => by
    obtain ⟨hp, g, d, tk, os⟩ := s
    obtain ⟨h1, h⟩ := h
    have hsub := sub_enumerate
    have go : ∀ {A' : Around} {E : Value → Shared → Prop} {Q : Value → Shared → Prop}, Q (.ref hp.objs.size) ⟨hp.push o, g, d, tk, os⟩ → wpAny (model prog w) A' (pyIter v) Q E ⟨hp, g, d, tk, os⟩ :=
      fun q => B.iter prog w _ _ ⟨hp, g, d, tk, os⟩ _ h1 q
    wp_walk using go
    refine wpAny_stack_any fun st => wpAny_pure ?_
    split
    · rename_i c _ _ _ _ _
      cases (c == Value.type "enumerate") <;> (wp_walk using go; exact ⟨_, rfl, h⟩)
    · wp_walk using go
      exact ⟨_, rfl, h⟩
theorem enum_call1 {prog : Program} {w : World} {A : Around} {E : Value → Shared → Prop} {s : Shared} {t : Addr} {items : Array Value} {Q : Value → Shared → Prop} (ht : s.heap.IsTuple t items)
    (h : ∀ h', IsEnum h' (s.heap.objs.size + 1) s.heap.objs.size 0 .none → h'.IsTupleIter s.heap.objs.size t 0 → h'.objs.size = s.heap.objs.size + 2 →
      (∀ b o, s.heap.get? b = some o → h'.get? b = some o) → Q (.ref (s.heap.objs.size + 1)) { s with heap := h' }) :
    wpAny (model prog w) A (call (.type "enumerate") [.ref t]) Q E s := by
  refine callType_new F.called_enumerate (by decide) (F.typeCall_enumerate_1 _) (F.newCall_enumerate_1 _) (fun obj => F.args_object_init_2 obj _) F.entry_enumerate_new (enum_new1 (begins_tuple t items)) ⟨ht, ?_⟩
  generalize ho : ({ cls := .type "tuple_iterator", data := .fields #[.ref t, .int 0 0] } : Obj) = ob
  have hz : (s.heap.push ob).objs.size = s.heap.objs.size + 1 := Heap.size_push ..
  show _ ∧ _
  rw [hz]
  have he : IsEnum ((s.heap.push ob).push { cls := .type "enumerate", data := .fields #[.none, .bool false, .ref s.heap.objs.size, rawInt 0, .none, .none] }) (s.heap.objs.size + 1) s.heap.objs.size 0 .none := by
    have q := Heap.get?_push_size (s.heap.push ob) (o := { cls := .type "enumerate", data := .fields #[.none, .bool false, .ref s.heap.objs.size, rawInt 0, .none, .none] }) rfl
    rw [hz] at q
    exact q
  have hit : ((s.heap.push ob).push { cls := .type "enumerate", data := .fields #[.none, .bool false, .ref s.heap.objs.size, rawInt 0, .none, .none] }).IsTupleIter s.heap.objs.size t 0 :=
    ⟨ob, Heap.get?_push_of_some _ (Heap.get?_push_size _ (by rw [← ho]; rfl)), by rw [← ho], by rw [← ho]; rfl⟩
  exact ⟨⟨_, he, rfl⟩, h _ he hit (by rw [Heap.size_push, hz]) fun b o x => Heap.get?_push_of_some _ (Heap.get?_push_of_some _ x)⟩
/-- the tuple at a, each item in a new pair with its place -/
def ItEnT (K : PySem.W.Frag) (a : Addr) : It :=
  ⟨fun i H => ∃ (xs : List V) (x : V), SqT K H a xs ∧ xs[i]? = some x, fun i H v H' => ∃ T x, v = .ref T ∧ H T = none ∧ H' = upd H T (.tup [.int (i : Nat), x]) ∧ ∀ xs, SqT K H a xs → xs[i]? = some x, fun i H => ∃ xs : List V, SqT K H a xs ∧ xs.length = i⟩
theorem turn_enT {P : Program} {w : World} {K : PySem.W.Frag} {elts : List Expr} {kk : Nat} {tpos : Pos} (a e it : Addr) :
    Turn P w K (.Tuple elts kk tpos) (ItEnT K a) [e, it] e (fun i h => (∃ old, IsEnum h e it ((i : Nat) : Int) old) ∧ h.IsTupleIter it a i ∧ e ≠ it) where
  mem := by simp
  obj := fun i h st b hb => by
    obtain ⟨⟨old, he⟩, ⟨o, ho, hc, hd⟩, _⟩ := st
    rcases List.mem_cons.mp hb with z | z
    · rw [z]; exact ⟨_, he, fun v q => nomatch q⟩
    · rw [List.mem_singleton.mp z]; exact ⟨o, ho, fun v q => by rw [hd] at q; cases q⟩
  keep := fun i h h' st k => by
    obtain ⟨⟨old, he⟩, hi, hne⟩ := st
    exact ⟨⟨old, k e (by simp) _ he⟩, hi.at fun o q => k it (by simp) o q, hne⟩
  item := by
    intro X hP hw hK hc i pins s σ H E I hf st hg
    subst hP hw hK
    obtain ⟨⟨old, he⟩, hit, hne⟩ := st
    obtain ⟨xs, x, hq, hx⟩ := hg
    obtain ⟨its, rv, p, hz⟩ := I.tuple hq
    obtain ⟨u, hu, ru⟩ := rv.get hx
    have hel : e < s.heap.objs.size := Heap.lt_size he
    have hil : it < s.heap.objs.size := by
      obtain ⟨_, q, _⟩ := hit
      exact Heap.lt_size q
    have tp : s.heap.IsTuple a its.toArray := p
    have nai : a ≠ it := fun z => by
      obtain ⟨o1, q1, c1, _⟩ := tp
      obtain ⟨o2, q2, c2, _⟩ := hit
      rw [z, q2] at q1
      cases q1
      rw [c1] at c2
      exact absurd c2 (by decide)
    have nae : a ≠ e := fun z => by
      obtain ⟨o1, q1, c1, _⟩ := tp
      rw [z, show s.heap.get? e = some _ from he] at q1
      cases q1
      have c2 : Value.type "enumerate" = Value.type "tuple" := c1
      exact absurd c2 (by decide)
    have hsz : i < its.toArray.size := by
      have := (List.getElem?_eq_some_iff.mp hu).1
      simpa using this
    have D := Draws.tuple (prog := X.prog) (w := X.w) (A := X.A.in1) (I.ok.hd hc) it a nai its.toArray
    refine wpAny_pyNext_enum_itemD D he ⟨hit, tp⟩ hsz hne (by simp [Ne.symm nae, hne]) fun y h' tk hy ho hst hT hs hk => ?_
    have ey : y = u := by
      have hy : its.toArray[i]? = some y := hy
      rw [List.getElem?_toArray, hu] at hy
      exact (Option.some.inj hy).symm
    subst ey
    refine ⟨_, rfl, wpAny_letOwnedTupleGo_enum (s := { s with heap := h', toks := tk + 1 }) ho fun h'' he' sb => ?_⟩
    have hT2 : h''.get? s.heap.objs.size = some { cls := .type "tuple", data := .seq #[.int i tk, y] } := (sb.2 _ (Nat.ne_of_gt hel)).trans hT
    have new : ObjOk X.prog X.w (upd H s.heap.objs.size (.tup [.int (i : Nat), x])) h'' s.heap.objs.size (.tup [.int (i : Nat), x]) :=
      ⟨by show 2 ≤ sizeLine; decide, [.int i tk, y], .cons ⟨_, rfl⟩ (.cons ru .nil), ⟨_, hT2, rfl, _, rfl⟩⟩
    have I1 : Inv X pins σ (upd H s.heap.objs.size (.tup [.int (i : Nat), x])) { s with heap := h'', toks := tk + 1 } :=
      I.turnedNew (ch := [e, it]) (fun b ob hb q => (sb.2 b (fun z => hb (by simp [z]))).trans (hk b ob (fun z => hb (by simp [z])) (fun z => hb (by simp [z])) q)) hf (Nat.le_refl _) new
    refine ⟨.ref s.heap.objs.size, _, I1, rfl, ⟨_, x, rfl, I.hok.fresh (Nat.le_refl _), rfl, fun ys hy => by rw [I.tuple_inj hy hq]; exact hx⟩, ⟨⟨y, ?_⟩, hst.1.at fun o q => (sb.2 it (Ne.symm hne)).trans q, hne⟩, fun b hb => ?_⟩
    · rw [show ((i + 1 : Nat) : Int) = (i : Int) + 1 by omega]
      exact he'
    · have hb' : b < s.heap.objs.size := by
        rcases List.mem_cons.mp hb with z | z
        · rw [z]; exact hel
        · rw [List.mem_singleton.mp z]; exact hil
      rw [upd_ne (Nat.ne_of_lt hb')]
      exact (hf b hb).1
  done := by
    intro X hP hw hK hc i pins s σ H E I hf st hg
    subst hP hw hK
    obtain ⟨⟨old, he⟩, hit, hne⟩ := st
    obtain ⟨xs, hq, hx⟩ := hg
    obtain ⟨its, rv, p, hz⟩ := I.tuple hq
    obtain ⟨f0, f1, f2, f3, f4, f5⟩ := hf it (by simp)
    have tp : s.heap.IsTuple a its.toArray := p
    have nai : a ≠ it := fun z => by
      obtain ⟨o1, q1, c1, _⟩ := tp
      obtain ⟨o2, q2, c2, _⟩ := hit
      rw [z, q2] at q1
      cases q1
      rw [c1] at c2
      exact absurd c2 (by decide)
    have hl := rv.length
    have D := Draws.tuple (prog := X.prog) (w := X.w) (A := X.A.in1) (I.ok.hd hc) it a nai its.toArray
    have e1 : i = its.toArray.size := by rw [List.size_toArray, ← hl]; exact hx.symm
    exact wpAny_pyNext_enum_endD D he (show s.heap.IsTupleIter it a its.toArray.size ∧ s.heap.IsTuple a its.toArray from ⟨e1 ▸ hit, tp⟩) fun h' eb => ⟨rfl, I.turned (t' := s.toks) (fun b o hb q => eb b o hb q) f0 f1 f3 f4 f5⟩
  self := fun A i s Q E st h => by
    obtain ⟨⟨_, he⟩, _⟩ := st
    exact wpAny_pyIter_enum he h
def iEnT (K : PySem.W.Frag) (ta : TA) : TI := fun σ H R => ta σ H fun vs H1 => ∃ a xs, vs = [.ref a] ∧ SqT K H1 a xs ∧ R (ItEnT K a) H1
theorem pi_enT {X : Cx} {e : Expr} {ta : TA} {p pos tpos : Pos} {elts : List Expr} {kk : Nat} (hg : Gl X "enumerate") (hm : X.mg "enumerate" = none) (ha : PA X [e] ta) (hs : starEach [e] X.env = [(false, eval e X.env)]) :
    PI X (.Tuple elts kk tpos) (.Call (.Name "enumerate" p) [e] [] pos) (iEnT X.K ta) := by
  refine ⟨fun pins s σ H R I h => ?_⟩
  refine PyProof.Rows.Call_ (ld_blt I hg hm PyProof.Rows.boot_enumerate (PyProof.Rows.callWith_type1 (thn (ha.run pos pins s σ H _ I h) fun us s1 hu => ?_) hs rfl))
  obtain ⟨vs, H1, I1, r1, a, xs, rfl, hq, q⟩ := hu
  obtain ⟨u, rfl, ru⟩ := vals1 r1
  cases ru
  obtain ⟨its, rv, tp, hz⟩ := I1.tuple hq
  refine enum_call1 (show s1.heap.IsTuple a its.toArray from tp) fun h' he hit hsz hk => wpAny_pyIter_enum he ?_
  have I2 : Inv X pins σ H1 { s1 with heap := h' } := I1.kept (t' := s1.toks) hk
  refine ⟨s1.heap.objs.size + 1, [s1.heap.objs.size + 1, s1.heap.objs.size], _, _, H1, rfl, I2, turn_enT a (s1.heap.objs.size + 1) s1.heap.objs.size, ⟨⟨.none, he⟩, hit, Nat.succ_ne_self _⟩, fun b hb => ?_, q⟩
  have hle : s1.heap.objs.size ≤ b := by
    rcases List.mem_cons.mp hb with z | z
    · rw [z]; exact Nat.le_add_right _ _
    · rw [List.mem_singleton.mp z]; exact Nat.le_refl _
  exact I1.fpOk hle (I1.hok.fresh hle)
end RF

set_option Elab.async false
set_option linter.all false
set_option maxRecDepth 100000
set_option maxHeartbeats 8000000
set_option autoImplicit false
namespace RF
open PySem PySem.Spec PyProof.Rows L2

/-! ### dict comprehensions, whatever the keys, one for or two -/
theorem dset_ok {X : Cx} {pins : List (Addr × Obj)} {σ : L2.St} {H H' : Hp} {s : Shared} {E : Value → Shared → Prop} {D : Addr} {y v : V} {u r : Value} {Q : Unit → Shared → Prop} (hu : X.A.units + 1 < cLine) (I : Inv X pins σ H s) (g : DPut H D y v H')
    (ry : RelV y u) (rv : RelV v r) (h : ∀ s', Inv X pins σ H' s' → Q () s') : wpAny (model X.prog X.w) X.A (dictSet D u r) Q E s := by
  rcases g with ⟨kvs, k, e, ey, l, eH⟩ | ⟨kvs, k, b, e, ey, eb, l, eH⟩
  · subst ey eH
    exact d_dictSet I e l ry rv h
  · subst ey eH
    cases (show u = Value.ref b from ry)
    obtain ⟨z, hd, xs, rel, dd⟩ := dt_of I.hok e
    have hz : xs.length ≤ sizeLine := by rw [← Paired.length rel]; exact z
    have hl : (putK kvs k v).length ≤ sizeLine := by
      have := length_putK kvs k v
      omega
    refine wpAny_dictSet_heap (hsz := hz) (show X.A.units < cLine by omega) (key_of I.hok eb) dd fun h' dd' hs => h _ ?_
    obtain ⟨q, es, ep, hq, h2, h3, h4, _, h5⟩ := dd'
    refine d_write I (by rw [e]; exact True.intro) hs ⟨q, hq⟩ ⟨hl, hd, _, (rel.put k eb rv).keeps fun c ys ec => ?_, q, es, ep, hq, h2, h3, h4, h5⟩
    rw [upd_ne (ne_of ec e (fun z => nomatch z))]
    exact ec
/-- the new dict: of either kind of keys -/
def emptyD (b : Bool) : HO := if b then .dK [] else .dT []
theorem emptyD_ok {P : Program} {w : World} {H : Hp} (b : Bool) (h : Heap) (hb : sysModules < h.objs.size) : ObjOk P w H (h.push { cls := .type "dict", data := .dict #[] }) h.objs.size (emptyD b) := by
  cases b
  · exact dt_empty h hb
  · exact dk_empty h hb
def tDcU (wi : TI) (g : TG) (tt : TT) (tk tv : TE) (vs : List Nat) : TE := fun σ H Q => ∃ kind : Bool, wi σ H fun J H1 => ∀ D, H1 D = none → ∃ W : Nat → Nat → Hp → Prop, (∃ m, W 0 m (upd H1 D (emptyD kind))) ∧ ∀ i m H, W i m H →
  (J.stop i H ∧ Q (.ref D) H) ∨ (J.go i H ∧ ∃ Nx : Hp → Prop, (∀ H', Nx H' → ∃ m', m' < m ∧ W (i + 1) m' H') ∧ ∀ x H', J.yld i H x H' → g x (wipe σ vs) H' fun σ2 H2 => wipe σ2 vs = wipe σ vs ∧ tt σ2 H2 fun b H3 =>
    if b = true then tk σ2 H3 fun y H4 => tv σ2 H4 fun z H5 => ∃ H6, DPut H5 D y z H6 ∧ Nx H6 else Nx H3)
def tDc2 (wi : TI) (g : TG) (wi1 : TI) (g1 : TG) (tk tv : TE) (vs vs1 : List Nat) : TE := fun σ H Q => ∃ kind : Bool, wi σ H fun J H1 => ∀ D, H1 D = none → ∃ W : Nat → Nat → Hp → Prop, (∃ m, W 0 m (upd H1 D (emptyD kind))) ∧ ∀ i m H, W i m H →
  (J.stop i H ∧ Q (.ref D) H) ∨ (J.go i H ∧ ∃ Nx : Hp → Prop, (∀ H', Nx H' → ∃ m', m' < m ∧ W (i + 1) m' H') ∧ ∀ x H', J.yld i H x H' → g x (wipe σ vs) H' fun σ2 H2 => wipe σ2 vs = wipe σ vs ∧
    wi1 σ2 H2 fun J1 H4 => ∃ W1 : Nat → Nat → Hp → Prop, (∃ m, W1 0 m H4) ∧ ∀ j k H, W1 j k H →
      (J1.stop j H ∧ Nx H) ∨ (J1.go j H ∧ ∃ Nx1 : Hp → Prop, (∀ H', Nx1 H' → ∃ k', k' < k ∧ W1 (j + 1) k' H') ∧ ∀ x H', J1.yld j H x H' → g1 x (wipe σ2 vs1) H' fun σ3 H5 => wipe σ3 vs1 = wipe σ2 vs1 ∧
        tk σ3 H5 fun y H6 => tv σ3 H6 fun z H7 => ∃ H8, DPut H7 D y z H8 ∧ Nx1 H8))

section
variable {prog : Program} {w : World} {A : Around} {R : Result → Shared → Prop} {s : Shared} {kx vx t0 i0 t1 i1 : Expr} {scope : Scope} {pos : Pos} {it : Value} {D : Addr} {env : Env}
theorem dturn_out : compTurn (.DictComp kx vx [⟨t0, i0, [], 0⟩, ⟨t1, i1, [], 0⟩] scope pos) 0 it (.ref D) env = (do
      standAt i0.pos
      match ← pyNext it with
      | none => pure (.done .next)
      | some v =>
        letOwnedTupleGo t0 it v
        assign t0 env v
        let mut ok := true
        for c in ([] : List Expr) do
          if ok then ok ← isTrue c env (eval c env)
        if ok then
          let x ← eval i1 env
          standAt i1.pos
          let x ← foldedSetIterable i1 env x
          let _ ← runOwn (.compStart (.DictComp kx vx [⟨t0, i0, [], 0⟩, ⟨t1, i1, [], 0⟩] scope pos) 1 (← holding [x] (pyIter x)) (.ref D) env) env
        again (.compLoop (.DictComp kx vx [⟨t0, i0, [], 0⟩, ⟨t1, i1, [], 0⟩] scope pos) 0 it (.ref D) env)) := by rfl
theorem dturn_in : compTurn (.DictComp kx vx [⟨t0, i0, [], 0⟩, ⟨t1, i1, [], 0⟩] scope pos) 1 it (.ref D) env = (do
      standAt i1.pos
      match ← pyNext it with
      | none => pure (.done .next)
      | some v =>
        letOwnedTupleGo t1 it v
        assign t1 env v
        let mut ok := true
        for c in ([] : List Expr) do
          if ok then ok ← isTrue c env (eval c env)
        if ok then
          (do
            let kv ← eval kx env
            let vv ← holding [kv] (eval vx env)
            standAt { kx.pos with endLine := vx.pos.endLine, endCol := vx.pos.endCol }
            holding [kv, vv] (dictSet D kv vv))
        again (.compLoop (.DictComp kx vx [⟨t0, i0, [], 0⟩, ⟨t1, i1, [], 0⟩] scope pos) 1 it (.ref D) env)) := by rfl
theorem dloop_out (hs : ∀ x, foldedSetIterable i1 env x = pure x) (I : Nat → Shared → Prop)
    (turn : ∀ n s, I n s → wpAny (model prog w) A (pyNext it) (fun r s1 => match r with
      | none => R (.ok .next) s1
      | some v => wpAny (model prog w) A (letOwnedTupleGo t0 it v) (fun _ s2 => wpAny (model prog w) A (assign t0 env v) (fun _ s3 =>
          wpAny (model prog w) A (eval i1 env) (fun x s4 => wpAny (model prog w) A (pyIter x) (fun it1 s5 =>
              codeAny (model prog w) A (.compStart (.DictComp kx vx [⟨t0, i0, [], 0⟩, ⟨t1, i1, [], 0⟩] scope pos) 1 it1 (.ref D) env) (fun r s' => match r with
                | .ok _ => ∃ m, m < n ∧ I m s'
                | .error _ => False) s5) (fun _ _ => False) s4) (fun _ _ => False) s3) (fun _ _ => False) s2) (fun _ _ => False) s1) (fun _ _ => False) s)
    (n : Nat) (h : I n s) : codeAny (model prog w) A (.compLoop (.DictComp kx vx [⟨t0, i0, [], 0⟩, ⟨t1, i1, [], 0⟩] scope pos) 0 it (.ref D) env) R s := by
  refine codeAny_loop rfl I (fun n s hI => ?_) n h
  show wpAny _ A ((compTurn (.DictComp kx vx [⟨t0, i0, [], 0⟩, ⟨t1, i1, [], 0⟩] scope pos) 0 it (.ref D) env).onRaise (fun x => do noteFrame x env; theTreesLotGoes x)) _ _ s
  refine wpAny_noted ?_
  rw [dturn_out]
  refine wpAny_bind (wpAny_standAt (wpAny_bind (thnF (turn n s hI) fun r s1 h1 => ?_)))
  cases r with
  | none => exact wpAny_pure h1
  | some v =>
    refine wpAny_bind (thnF h1 fun _ s2 h2 => wpAny_bind (thnF h2 fun _ s3 h3 => wpAny_bind (wpAny_tests_nil ?_)))
    refine wpAny_bind (thnF h3 fun x s4 h4 => ?_)
    refine wpAny_bind (wpAny_standAt (wpAny_bind (wpAny_of_eq (hs x) (wpAny_bind (wpAny_holding (thnF h4 fun it1 s5 h5 => ?_))))))
    refine wpAny_bind (wpAny_runOwn ?_)
    rw [Around.mark_none]
    refine codeAny_mono h5 fun r s' hr => ?_
    cases r with
    | ok f => first | exact wpAny_pure ⟨rfl, hr⟩ | exact wpAny_bind (wpAny_pure (wpAny_pure ⟨rfl, hr⟩))
    | error e => exact hr.elim
theorem dloop_in (I : Nat → Shared → Prop)
    (turn : ∀ n s, I n s → wpAny (model prog w) A (pyNext it) (fun r s1 => match r with
      | none => R (.ok .next) s1
      | some v => wpAny (model prog w) A (letOwnedTupleGo t1 it v) (fun _ s2 => wpAny (model prog w) A (assign t1 env v) (fun _ s3 =>
          wpAny (model prog w) A (eval kx env) (fun kv s4 => wpAny (model prog w) A (eval vx env) (fun vv s5 =>
              wpAny (model prog w) A (dictSet D kv vv) (fun _ s6 => ∃ m, m < n ∧ I m s6) (fun _ _ => False) s5) (fun _ _ => False) s4) (fun _ _ => False) s3) (fun _ _ => False) s2) (fun _ _ => False) s1) (fun _ _ => False) s)
    (n : Nat) (h : I n s) : codeAny (model prog w) A (.compLoop (.DictComp kx vx [⟨t0, i0, [], 0⟩, ⟨t1, i1, [], 0⟩] scope pos) 1 it (.ref D) env) R s := by
  refine codeAny_loop rfl I (fun n s hI => ?_) n h
  show wpAny _ A ((compTurn (.DictComp kx vx [⟨t0, i0, [], 0⟩, ⟨t1, i1, [], 0⟩] scope pos) 1 it (.ref D) env).onRaise (fun x => do noteFrame x env; theTreesLotGoes x)) _ _ s
  refine wpAny_noted ?_
  rw [dturn_in]
  refine wpAny_bind (wpAny_standAt (wpAny_bind (thnF (turn n s hI) fun r s1 h1 => ?_)))
  cases r with
  | none => exact wpAny_pure h1
  | some v =>
    refine wpAny_bind (thnF h1 fun _ s2 h2 => wpAny_bind (thnF h2 fun _ s3 h3 => wpAny_bind (wpAny_tests_nil ?_)))
    exact wpAny_bind (wpAny_bind (thnF h3 fun kv s4 h4 => wpAny_bind (wpAny_holding (thnF h4 fun vv s5 h5 => wpAny_bind (wpAny_standAt (wpAny_holding (thnF h5 fun _ s6 h6 => wpAny_pure ⟨rfl, h6⟩)))))))
theorem dstart_in (h0 : codeAny (model prog w) A (.compLoop (.DictComp kx vx [⟨t0, i0, [], 0⟩, ⟨t1, i1, [], 0⟩] scope pos) 1 it (.ref D) env) R s)
    (h : wpAny (model prog w) A (pyIter it) (fun it' s' => codeAny (model prog w) A (.compLoop (.DictComp kx vx [⟨t0, i0, [], 0⟩, ⟨t1, i1, [], 0⟩] scope pos) 1 it' (.ref D) env) R s')
      (notedBy (model prog w) A env fun x s' => R (.error x) s') s) :
    codeAny (model prog w) A (.compStart (.DictComp kx vx [⟨t0, i0, [], 0⟩, ⟨t1, i1, [], 0⟩] scope pos) 1 it (.ref D) env) R s := by
  refine codeAny_of_tree ?_
  show wpAny _ _ ((compStart (.DictComp kx vx [⟨t0, i0, [], 0⟩, ⟨t1, i1, [], 0⟩] scope pos) 1 it (.ref D) env).onRaise (fun x => do noteFrame x env; standAt theWindowsPlace)) _ _ s
  refine wpAny_notedAt ?_
  unfold compStart
  show wpAny _ _ (ask >>= _) _ _ s
  refine wpAny_bind (wpAny_askSetting (wpAny_ite ?_))
  split
  · first
      | exact wpAny_bind (wpAny_pure (wpAny_pure (And.intro rfl h0)))
      | exact wpAny_pure (And.intro rfl h0)
  · first
      | exact wpAny_bind (wpAny_rule (wpAny_bind (wpAny_standAt (wpAny_bind (wpAny_mono h (fun it' s' h' => wpAny_pure (And.intro rfl h')) fun _ _ x => x)))))
      | (refine wpAny_bind (wpAny_rule ?_); show wpAny _ _ (standAt i1.pos >>= _) _ _ s; exact wpAny_bind (wpAny_standAt (wpAny_bind (wpAny_mono h (fun it' s' h' => wpAny_pure (And.intro rfl h')) fun _ _ x => x))))
end
end RF

set_option Elab.async false
set_option linter.all false
set_option maxRecDepth 100000
set_option maxHeartbeats 8000000
set_option autoImplicit false
namespace RF
open PySem PySem.Spec PyProof.Rows L2
section
variable {X : Cx} {kx vx tg iter : Expr} {ifs : List Expr} {rest : List Comprehension} {scope : Scope} {own : List (Str × Nat)} {pos : Pos} {wi : TI}
/-- a dict comprehension's block is set up; what is left is its first loop -/
theorem dopenU {use : Option (Value → Sem Unit)} {Qf : Value → Shared → Prop} {pos' : Pos} {pins : List (Addr × Obj)} {s : Shared} {σ : L2.St} {H : Hp} {Q : VK} {T0 : It → Addr → Hp → Prop} (kind : Bool) (hc : X.calm = true) (hN : X.N.Nodup) (I : Inv X pins σ H s) (hi : PI X tg iter wi) (ok : BlkOk X.N X.env.scope scope own)
    (hs : ∀ x, foldedSetIterable iter X.env x = pure x) (h : wi σ H fun J H1 => ∀ D, H1 D = none → T0 J D H1)
    (hRR : ∀ D C s' m H', Inv X pins σ H' s' → Q (.ref D) H' → s'.heap.Ns C m → FpOk X pins H' C → compPost (model X.prog X.w) X.A X.xe use Qf (.ref D) C (.ok .next) s')
    (body : ∀ (J : It) (it D C : Addr) (fp : List Addr) (tn : Nat → Heap → Prop) (cl : List (Str × Addr)) (H2 : Hp) (s3 s4 : Shared) (R : Result → Shared → Prop), T0 J D H2 → Turn X.prog X.w X.K tg J fp it tn →
      Inv (X.blk s3 (upd H2 D (emptyD kind)) scope (compEnvC scope cl C X.env) fp) [] (wipe σ (own.map (·.2))) (upd H2 D (emptyD kind)) s4 → tn 0 s4.heap → (∀ b ∈ fp, (upd H2 D (emptyD kind)) b = none) →
      (∀ (s' : Shared) (H' : Hp), Inv (X.blk s3 (upd H2 D (emptyD kind)) scope (compEnvC scope cl C X.env) fp) [] (wipe σ (own.map (·.2))) H' s' → Q (.ref D) H' → R (.ok .next) s') →
      codeAny (model X.prog X.w) X.A (.compLoop (.DictComp kx vx (⟨tg, iter, ifs, 0⟩ :: rest) scope pos) 0 (.ref it) (.ref D) (compEnvC scope cl C X.env)) R s4) :
    wpAny (model X.prog X.w) X.A (comprehension (.DictComp kx vx (⟨tg, iter, ifs, 0⟩ :: rest) scope pos) scope X.env pos' newDict false (eval iter X.env) use) Qf X.xe s := by
  have hfree : ∀ y ∈ scope.names, y.2 = .free → ∃ c, X.env.cells.lookup y.1 = some c := fun y hy e => (ok.free y hy e).elim (fun k => I.ok.has _ (.inl k)) fun k => I.ok.has _ (.inr k)
  refine wpAny_comprehension_free (use := use) rfl hs (closure_ok hfree) ok.kind (fun y hy e => by rw [ok.uniq y hy, e]) (thn (hi.run pins s σ H _ I h) fun xv s1 hx => thn hx fun itv s2 h2 => ?_)
  obtain ⟨it, fp, tn, J, H2, e, I2, T, st2, f2, q⟩ := h2
  subst e
  refine wpAny_newObj_type (newEnv_comp ?_)
  generalize hD : s2.heap.objs.size = D
  have hDn : H2 D = none := I2.hok.fresh (Nat.le_of_eq hD)
  have t0 := q D hDn
  generalize hs3 : ({ s2 with heap := s2.heap.push { cls := .type "dict", data := .dict #[] } } : Shared) = s3
  have h3 : s3.heap = s2.heap.push { cls := .type "dict", data := .dict #[] } := by rw [← hs3]
  have I3 : Inv X pins σ (upd H2 D (emptyD kind)) s3 := by
    rw [← hs3]
    refine I2.laid (t' := s2.toks) (fun b o e => Heap.get?_push_of_some _ e) (Nat.le_of_eq hD) ?_
    rw [← hD]
    exact emptyD_ok kind s2.heap I2.big
  have f3 : ∀ b ∈ fp, FpOk X pins (upd H2 D (emptyD kind)) b ∧ b < s3.heap.objs.size := fun b hb => by
    obtain ⟨o, e, _⟩ := T.obj _ _ st2 b hb
    have hlt := Heap.lt_size e
    refine ⟨⟨?_, (f2 b hb).2⟩, by rw [h3, Heap.size_push]; exact Nat.lt_succ_of_lt hlt⟩
    rw [upd_ne (by rw [← hD]; exact Nat.ne_of_lt hlt)]
    exact (f2 b hb).1
  have st3 : tn 0 s3.heap := T.keep _ _ _ st2 fun b _ o e => by rw [h3]; exact Heap.get?_push_of_some _ e
  have I4 := block_start I3 ok hN f3
  show codeAny _ _ (.compStart (.DictComp kx vx (⟨tg, iter, ifs, 0⟩ :: rest) scope pos) 0 (.ref it) (.ref D) (compEnvC scope (cellsFrom (s3.heap.objs.size + 1) scope.names (cloFrom X.env.cells scope.names [])) s3.heap.objs.size X.env)) (compPost (model X.prog X.w) X.A X.xe use Qf (.ref D) s3.heap.objs.size) { s3 with heap := pushCells (s3.heap.push { cls := .type "dict", data := .dict #[] }) scope.names }
  have nfp : ∀ b ∈ fp, (upd H2 D (emptyD kind)) b = none := fun b hb => (f3 b hb).1.1
  generalize hs4 : ({ s3 with heap := pushCells (s3.heap.push { cls := .type "dict", data := .dict #[] }) scope.names } : Shared) = s4 at I4 ⊢
  have st4 : tn 0 s4.heap := T.keep _ _ _ st3 fun b _ o e => by rw [← hs4]; exact pushCells_keeps _ _ _ _ (Heap.get?_push_of_some _ e)
  have loop := body J it D s3.heap.objs.size fp tn _ H2 s3 s4 _ t0 T I4 st4 nfp fun s6 H5 I6 qq => by
    show compPost (model X.prog X.w) X.A X.xe use Qf (.ref D) s3.heap.objs.size (.ok .next) s6
    have I7 : Inv X pins σ H5 s6 := I3.call' (ch := fp) I6.os I6.base I6.hok I6.bare fun b hb => ⟨(f3 b hb).1.2.2.2.1, (f3 b hb).1.2.1, (f3 b hb).1.2.2.2.2.1, (f3 b hb).1.2.2.2.2.2⟩
    have nC : H5 s3.heap.objs.size = none := I6.free
    obtain ⟨m, hn, _⟩ := I6.loc
    exact hRR D s3.heap.objs.size s6 m H5 I7 qq hn (I3.fpOk (Nat.le_refl _) nC)
  exact codeAny_compStart_dict loop (T.self X.A 0 _ _ _ st4 loop)
theorem dopen {pins : List (Addr × Obj)} {s : Shared} {σ : L2.St} {H : Hp} {Q : VK} {T0 : It → Addr → Hp → Prop} (kind : Bool) (hc : X.calm = true) (hN : X.N.Nodup) (I : Inv X pins σ H s) (hi : PI X tg iter wi) (ok : BlkOk X.N X.env.scope scope own)
    (hs : ∀ x, foldedSetIterable iter X.env x = pure x) (h : wi σ H fun J H1 => ∀ D, H1 D = none → T0 J D H1)
    (body : ∀ (J : It) (it D C : Addr) (fp : List Addr) (tn : Nat → Heap → Prop) (cl : List (Str × Addr)) (H2 : Hp) (s3 s4 : Shared) (R : Result → Shared → Prop), T0 J D H2 → Turn X.prog X.w X.K tg J fp it tn →
      Inv (X.blk s3 (upd H2 D (emptyD kind)) scope (compEnvC scope cl C X.env) fp) [] (wipe σ (own.map (·.2))) (upd H2 D (emptyD kind)) s4 → tn 0 s4.heap → (∀ b ∈ fp, (upd H2 D (emptyD kind)) b = none) →
      (∀ (s' : Shared) (H' : Hp), Inv (X.blk s3 (upd H2 D (emptyD kind)) scope (compEnvC scope cl C X.env) fp) [] (wipe σ (own.map (·.2))) H' s' → Q (.ref D) H' → R (.ok .next) s') →
      codeAny (model X.prog X.w) X.A (.compLoop (.DictComp kx vx (⟨tg, iter, ifs, 0⟩ :: rest) scope pos) 0 (.ref it) (.ref D) (compEnvC scope cl C X.env)) R s4) :
    wpAny (model X.prog X.w) X.A (eval (.DictComp kx vx (⟨tg, iter, ifs, 0⟩ :: rest) scope pos) X.env) (EP X pins σ Q) X.xe s := by
  rw [arm_eval_DictComp]
  refine dopenU (use := none) kind hc hN I hi ok hs h (fun D C s' m H' I' q hn f => ⟨m, hn, fun h'' sb => ?_⟩) body
  obtain ⟨f0, f1, f2, f3, f4, f5⟩ := f
  exact ⟨.ref D, H', I'.turned (t' := s'.toks) (fun b o hb e => (sb.2 b hb).trans e) f0 f1 f3 f4 f5, rfl, q⟩
/-- the iterator's own objects, seen from the block -/
theorem blk_fp {s3 : Shared} {H3 H' : Hp} {ce : Env} {fp : List Addr} {σ' : L2.St} {s' : Shared} (I' : Inv (X.blk s3 H3 scope ce fp) [] σ' H' s') (hn : ∀ b ∈ fp, H' b = none) : ∀ b ∈ fp, FpOk (X.blk s3 H3 scope ce fp) [] H' b := fun b hb =>
  ⟨hn b hb, (I'.ok.exf b hb).1, I'.ok.exfs b hb, .inl hb, fun x c e => (I'.ok.exf b hb).2 x c e, fun p hp => absurd (show p ∈ ([] : List (Addr × Obj)) ++ [] from hp) (by simp)⟩
theorem unpin {Y : Cx} {pins pl : List (Addr × Obj)} {fp : List Addr} {h7 : Heap} {σ' : L2.St} {H' : Hp} {s' : Shared} (I' : Inv Y (pins ++ pinsAt fp h7) σ' H' s') : ∀ b ∈ fp, ∀ o, h7.get? b = some o → s'.heap.get? b = some o ∧ H' b = none := fun b hb o e =>
  let z := I'.pin (b, o) (List.mem_append_right _ (List.mem_append_right _ (mem_pinsAt hb e)))
  ⟨z.1, z.2.1⟩
theorem dcU_core {use : Option (Value → Sem Unit)} {Qf : Value → Shared → Prop} {pos' : Pos} {pins : List (Addr × Obj)} {s : Shared} {σ : L2.St} {H : Hp} {Q : VK} {g : TG} {tt : TT} {tk tv : TE} {k : Nat} (hr : Room k X.A) (hc : X.calm = true) (hN : X.N.Nodup) (I : Inv X pins σ H s) (hi : PI X tg iter wi) (ok : BlkOk X.N X.env.scope scope own)
    (hg : ∀ (s : Shared) (H : Hp) (C : Addr) (cl : List (Str × Addr)) (fp : List Addr), PG (X.blk s H scope (compEnvC scope cl C X.env) fp) tg g) (ht : ∀ (s : Shared) (H : Hp) (C : Addr) (cl : List (Str × Addr)) (fp : List Addr), PTs (X.blk s H scope (compEnvC scope cl C X.env) fp) ifs tt)
    (hk : ∀ (s : Shared) (H : Hp) (C : Addr) (cl : List (Str × Addr)) (fp : List Addr), PE (X.blk s H scope (compEnvC scope cl C X.env) fp) kx tk) (he : ∀ (s : Shared) (H : Hp) (C : Addr) (cl : List (Str × Addr)) (fp : List Addr), PE (X.blk s H scope (compEnvC scope cl C X.env) fp) vx tv)
    (hs : ∀ x, foldedSetIterable iter X.env x = pure x) (hh : tDcU wi g tt tk tv (own.map (·.2)) σ H Q)
    (hRR : ∀ D C s' m H', Inv X pins σ H' s' → Q (.ref D) H' → s'.heap.Ns C m → FpOk X pins H' C → compPost (model X.prog X.w) X.A X.xe use Qf (.ref D) C (.ok .next) s') :
    wpAny (model X.prog X.w) X.A (comprehension (.DictComp kx vx [⟨tg, iter, ifs, 0⟩] scope pos) scope X.env pos' newDict false (eval iter X.env) use) Qf X.xe s := by
  obtain ⟨kind, h⟩ := hh
  refine dopenU (use := use) kind hc hN I hi ok hs h hRR fun J it D C fp tn cl H2 s3 s4 R t0 T I4 st4 nfp fin0 => ?_
  obtain ⟨W, ⟨m0, w0⟩, turn⟩ := t0
  have pg := hg s3 (upd H2 D (emptyD kind)) C cl fp
  have pt := ht s3 (upd H2 D (emptyD kind)) C cl fp
  have pk := hk s3 (upd H2 D (emptyD kind)) C cl fp
  have pe := he s3 (upd H2 D (emptyD kind)) C cl fp
  refine compLoop_anyD (fun n s' => ∃ i H', Inv (X.blk s3 (upd H2 D (emptyD kind)) scope (compEnvC scope cl C X.env) fp) [] (wipe σ (own.map (·.2))) H' s' ∧ tn i s'.heap ∧ (∀ b ∈ fp, H' b = none) ∧ W i n H') ?_ m0 ⟨0, _, I4, st4, nfp, w0⟩
  rintro n s5 ⟨i, H5, I5, st5, n5, w5⟩
  rcases turn i n H5 w5 with ⟨stop, qq⟩ | ⟨go, Nx, hNx, step⟩
  · refine thnF (T.done (X.blk s3 (upd H2 D (emptyD kind)) scope (compEnvC scope cl C X.env) fp) rfl rfl rfl hc i [] s5 _ H5 (fun _ _ => False) I5 (blk_fp I5 n5) st5 stop) fun r s6 hr6 => ?_
    obtain ⟨hr6, I6⟩ := hr6
    subst hr6
    exact fin0 s6 H5 I6 qq
  · refine thnF (T.item (X.blk s3 (upd H2 D (emptyD kind)) scope (compEnvC scope cl C X.env) fp) rfl rfl rfl hc i [] s5 _ H5 (fun _ _ => False) I5 (blk_fp I5 n5) st5 go) fun r s6 hr6 => ?_
    obtain ⟨u, hr6, h6⟩ := hr6
    subst hr6
    refine thnF h6 fun _ s7 h7 => ?_
    obtain ⟨x, H7, I7, r7, y7, st7, n7⟩ := h7
    have I7' := I7.pinned (blk_fp I7 n7) (T.obj _ _ st7)
    refine thnF (pg.run _ s7 _ H7 x u _ I7' r7 (step x H7 y7)) fun _ s8 h8 => ?_
    obtain ⟨σ8, H8, I8, hw8, q8⟩ := h8
    refine thnF (pt.run _ s8 σ8 H8 _ I8 q8) fun b s9 h9 => ?_
    obtain ⟨H9, I9, q9⟩ := h9
    have fin : ∀ {s' : Shared} {H' : Hp}, Inv (X.blk s3 (upd H2 D (emptyD kind)) scope (compEnvC scope cl C X.env) fp) ([] ++ pinsAt fp s7.heap) σ8 H' s' → Nx H' → ∃ m, m < n ∧ ∃ i H', Inv (X.blk s3 (upd H2 D (emptyD kind)) scope (compEnvC scope cl C X.env) fp) [] (wipe σ (own.map (·.2))) H' s' ∧ tn i s'.heap ∧ (∀ b ∈ fp, H' b = none) ∧ W i m H' := fun {s' H'} I' nx => by
      obtain ⟨m', hm, w'⟩ := hNx H' nx
      have up := unpin (pl := []) I'
      refine ⟨m', hm, i + 1, H', (I'.unpinned (pins := [])).weak (by rw [← hw8, wipe_length]) (fun j v e => by rw [← hw8] at e; exact (wipe_some e).1), T.keep _ _ _ st7 fun b hb o e => (up b hb o e).1, fun b hb => ?_, w'⟩
      obtain ⟨o, e, _⟩ := T.obj _ _ st7 b hb
      exact (up b hb o e).2
    cases b with
    | false =>
      simp only [Bool.false_eq_true, if_false] at q9 ⊢
      exact fin I9 q9
    | true =>
      simp only [if_true] at q9 ⊢
      refine thnF (pk.run _ s9 σ8 H9 _ I9 q9) fun z s10 h10 => ?_
      obtain ⟨yk, H10, I10, r10, q10⟩ := h10
      refine thnF (pe.run _ s10 σ8 H10 _ I10 q10) fun z2 s11 h11 => ?_
      obtain ⟨yv, H11, I11, r11, H12, put, nx⟩ := h11
      exact dset_ok (X := X.blk s3 (upd H2 D (emptyD kind)) scope (compEnvC scope cl C X.env) fp) (hu_of hr) I11 put r10 r11 fun s12 I12 => fin I12 nx
theorem pe_dcU {g : TG} {tt : TT} {tk tv : TE} {k : Nat} (hr : Room k X.A) (hc : X.calm = true) (hN : X.N.Nodup) (hi : PI X tg iter wi) (ok : BlkOk X.N X.env.scope scope own)
    (hg : ∀ (s : Shared) (H : Hp) (C : Addr) (cl : List (Str × Addr)) (fp : List Addr), PG (X.blk s H scope (compEnvC scope cl C X.env) fp) tg g) (ht : ∀ (s : Shared) (H : Hp) (C : Addr) (cl : List (Str × Addr)) (fp : List Addr), PTs (X.blk s H scope (compEnvC scope cl C X.env) fp) ifs tt)
    (hk : ∀ (s : Shared) (H : Hp) (C : Addr) (cl : List (Str × Addr)) (fp : List Addr), PE (X.blk s H scope (compEnvC scope cl C X.env) fp) kx tk) (he : ∀ (s : Shared) (H : Hp) (C : Addr) (cl : List (Str × Addr)) (fp : List Addr), PE (X.blk s H scope (compEnvC scope cl C X.env) fp) vx tv)
    (hs : ∀ x, foldedSetIterable iter X.env x = pure x := by intro _; rfl) : PE X (.DictComp kx vx [⟨tg, iter, ifs, 0⟩] scope pos) (tDcU wi g tt tk tv (own.map (·.2))) := by
  refine ⟨fun pins s σ H Q I h => ?_⟩
  rw [arm_eval_DictComp]
  refine dcU_core hr hc hN I hi ok hg ht hk he hs h fun D C s' m H' I' q hn f => ⟨m, hn, fun h'' sb => ?_⟩
  obtain ⟨f0, f1, f2, f3, f4, f5⟩ := f
  exact ⟨.ref D, H', I'.turned (t' := s'.toks) (fun b o hb e => (sb.2 b hb).trans e) f0 f1 f3 f4 f5, rfl, q⟩
theorem pe_dc2 {g g1 : TG} {tg1 iter1 : Expr} {wi1 : TI} {tk tv : TE} {vs1 : List Nat} {k : Nat} (hr : Room k X.A) (hc : X.calm = true) (hN : X.N.Nodup) (hi : PI X tg iter wi) (ok : BlkOk X.N X.env.scope scope own) (hv : ∀ i ∈ vs1, i ∈ own.map (·.2))
    (hg : ∀ (s : Shared) (H : Hp) (C : Addr) (cl : List (Str × Addr)) (fp : List Addr), PG (X.blk s H scope (compEnvC scope cl C X.env) fp) tg g)
    (hi1 : ∀ (s : Shared) (H : Hp) (C : Addr) (cl : List (Str × Addr)) (fp : List Addr), PI (X.blk s H scope (compEnvC scope cl C X.env) fp) tg1 iter1 wi1) (hg1 : ∀ (s : Shared) (H : Hp) (C : Addr) (cl : List (Str × Addr)) (fp : List Addr), PG (X.blk s H scope (compEnvC scope cl C X.env) fp) tg1 g1)
    (hk : ∀ (s : Shared) (H : Hp) (C : Addr) (cl : List (Str × Addr)) (fp : List Addr), PE (X.blk s H scope (compEnvC scope cl C X.env) fp) kx tk) (he : ∀ (s : Shared) (H : Hp) (C : Addr) (cl : List (Str × Addr)) (fp : List Addr), PE (X.blk s H scope (compEnvC scope cl C X.env) fp) vx tv)
    (hs : ∀ x, foldedSetIterable iter X.env x = pure x := by intro _; rfl) (hs1 : ∀ env x, foldedSetIterable iter1 env x = pure x := by intro _ _; rfl) :
    PE X (.DictComp kx vx [⟨tg, iter, [], 0⟩, ⟨tg1, iter1, [], 0⟩] scope pos) (tDc2 wi g wi1 g1 tk tv (own.map (·.2)) vs1) := by
  refine ⟨fun pins s σ H Q I hh => ?_⟩
  obtain ⟨kind, h⟩ := hh
  refine dopen kind hc hN I hi ok hs h fun J it D C fp tn cl H2 s3 s4 R t0 T I4 st4 nfp fin0 => ?_
  obtain ⟨W, ⟨m0, w0⟩, turn⟩ := t0
  have pg := hg s3 (upd H2 D (emptyD kind)) C cl fp
  have pi1 := hi1 s3 (upd H2 D (emptyD kind)) C cl fp
  have pg1 := hg1 s3 (upd H2 D (emptyD kind)) C cl fp
  have pk := hk s3 (upd H2 D (emptyD kind)) C cl fp
  have pe := he s3 (upd H2 D (emptyD kind)) C cl fp
  refine dloop_out (hs1 _) (fun n s' => ∃ i H', Inv (X.blk s3 (upd H2 D (emptyD kind)) scope (compEnvC scope cl C X.env) fp) [] (wipe σ (own.map (·.2))) H' s' ∧ tn i s'.heap ∧ (∀ b ∈ fp, H' b = none) ∧ W i n H') ?_ m0 ⟨0, _, I4, st4, nfp, w0⟩
  rintro n s5 ⟨i, H5, I5, st5, n5, w5⟩
  rcases turn i n H5 w5 with ⟨stop, qq⟩ | ⟨go, Nx, hNx, step⟩
  · refine thnF (T.done (X.blk s3 (upd H2 D (emptyD kind)) scope (compEnvC scope cl C X.env) fp) rfl rfl rfl hc i [] s5 _ H5 (fun _ _ => False) I5 (blk_fp I5 n5) st5 stop) fun r s6 hr6 => ?_
    obtain ⟨hr6, I6⟩ := hr6
    subst hr6
    exact fin0 s6 H5 I6 qq
  · refine thnF (T.item (X.blk s3 (upd H2 D (emptyD kind)) scope (compEnvC scope cl C X.env) fp) rfl rfl rfl hc i [] s5 _ H5 (fun _ _ => False) I5 (blk_fp I5 n5) st5 go) fun r s6 hr6 => ?_
    obtain ⟨u, hr6, h6⟩ := hr6
    subst hr6
    refine thnF h6 fun _ s7 h7 => ?_
    obtain ⟨x, H7, I7, r7, y7, st7, n7⟩ := h7
    have I7' := I7.pinned (blk_fp I7 n7) (T.obj _ _ st7)
    refine thnF (pg.run _ s7 _ H7 x u _ I7' r7 (step x H7 y7)) fun _ s8 h8 => ?_
    obtain ⟨σ8, H8, I8, hw8, q8⟩ := h8
    have hl8 : (wipe σ (own.map (·.2))).length = σ8.length := by rw [← hw8, wipe_length]
    have hk9 : ∀ (j : Nat) (v : V), (wipe σ (own.map (·.2)))[j]? = some (some v) → (wipe σ8 vs1)[j]? = some (some v) := fun j v e => by
      rw [← hw8] at e
      obtain ⟨e1, e2⟩ := wipe_some e
      rw [wipe_out fun z => e2 (hv j z)]
      exact e1
    have fin : ∀ {s' : Shared} {H' : Hp}, Inv (X.blk s3 (upd H2 D (emptyD kind)) scope (compEnvC scope cl C X.env) fp) ([] ++ pinsAt fp s7.heap) (wipe σ8 vs1) H' s' → Nx H' →
        ∃ m, m < n ∧ ∃ i H', Inv (X.blk s3 (upd H2 D (emptyD kind)) scope (compEnvC scope cl C X.env) fp) [] (wipe σ (own.map (·.2))) H' s' ∧ tn i s'.heap ∧ (∀ b ∈ fp, H' b = none) ∧ W i m H' := fun {s' H'} I' nx => by
      obtain ⟨m', hm, w'⟩ := hNx H' nx
      have up := unpin (pl := []) I'
      refine ⟨m', hm, i + 1, H', (I'.unpinned (pins := [])).weak (hl8.trans (wipe_length σ8 vs1).symm) hk9, T.keep _ _ _ st7 fun b hb o e => (up b hb o e).1, fun b hb => ?_, w'⟩
      obtain ⟨o, e, _⟩ := T.obj _ _ st7 b hb
      exact (up b hb o e).2
    refine thnF (pi1.run _ s8 σ8 H8 _ I8 q8) fun xv s10 hx => thnF hx fun itv s11 h11 => ?_
    obtain ⟨it1, fp1, tn1, J1, H11, e1, I11, T1, st11, f11, W1, ⟨m1, w1⟩, turn1⟩ := h11
    subst e1
    have stat1 : ∀ {H' : Hp}, (∀ b ∈ fp1, H' b = none) → ∀ b ∈ fp1, FpOk (X.blk s3 (upd H2 D (emptyD kind)) scope (compEnvC scope cl C X.env) fp) ([] ++ pinsAt fp s7.heap) H' b := fun hn b hb => ⟨hn b hb, (f11 b hb).2⟩
    have loop1 : codeAny (model X.prog X.w) X.A (.compLoop (.DictComp kx vx [⟨tg, iter, [], 0⟩, ⟨tg1, iter1, [], 0⟩] scope pos) 1 (.ref it1) (.ref D) (compEnvC scope cl C X.env))
        (fun r s' => match r with
          | .ok _ => ∃ m, m < n ∧ ∃ i H', Inv (X.blk s3 (upd H2 D (emptyD kind)) scope (compEnvC scope cl C X.env) fp) [] (wipe σ (own.map (·.2))) H' s' ∧ tn i s'.heap ∧ (∀ b ∈ fp, H' b = none) ∧ W i m H'
          | .error _ => False) s11 := by
      refine dloop_in (fun k s' => ∃ j H', Inv (X.blk s3 (upd H2 D (emptyD kind)) scope (compEnvC scope cl C X.env) fp) ([] ++ pinsAt fp s7.heap) (wipe σ8 vs1) H' s' ∧ tn1 j s'.heap ∧ (∀ b ∈ fp1, H' b = none) ∧ W1 j k H') ?_ m1 ⟨0, H11, I11.weak (wipe_length _ _) (fun j v e => (wipe_some e).1), st11, fun b hb => (f11 b hb).1, w1⟩
      rintro k s12 ⟨j, H12, I12, st12, n12, w12⟩
      rcases turn1 j k H12 w12 with ⟨stop1, nx1⟩ | ⟨go1, Nx1, hNx1, step1⟩
      · refine thnF (T1.done (X.blk s3 (upd H2 D (emptyD kind)) scope (compEnvC scope cl C X.env) fp) rfl rfl rfl hc j _ s12 (wipe σ8 vs1) H12 (fun _ _ => False) I12 (stat1 n12) st12 stop1) fun r s13 h13 => ?_
        obtain ⟨hr13, I13⟩ := h13
        subst hr13
        exact fin I13 nx1
      · refine thnF (T1.item (X.blk s3 (upd H2 D (emptyD kind)) scope (compEnvC scope cl C X.env) fp) rfl rfl rfl hc j _ s12 (wipe σ8 vs1) H12 (fun _ _ => False) I12 (stat1 n12) st12 go1) fun r s13 h13 => ?_
        obtain ⟨u1, hr13, h13⟩ := h13
        subst hr13
        refine thnF h13 fun _ s14 h14 => ?_
        obtain ⟨x1, H14, I14, r14, y14, st14, n14⟩ := h14
        have I14' := I14.pinned (stat1 n14) (T1.obj _ _ st14)
        refine thnF (pg1.run _ s14 (wipe σ8 vs1) H14 x1 u1 _ I14' r14 (step1 x1 H14 y14)) fun _ s15 h15 => ?_
        obtain ⟨σ15, H15, I15, hw15, q15⟩ := h15
        refine thnF (pk.run _ s15 σ15 H15 _ I15 q15) fun z s16 h16 => ?_
        obtain ⟨yk, H16, I16, r16, q16⟩ := h16
        refine thnF (pe.run _ s16 σ15 H16 _ I16 q16) fun z2 s17 h17 => ?_
        obtain ⟨yv, H17, I17, r17, H18, put, nx⟩ := h17
        refine dset_ok (X := X.blk s3 (upd H2 D (emptyD kind)) scope (compEnvC scope cl C X.env) fp) (hu_of hr) I17 put r16 r17 fun s18 I18 => ?_
        obtain ⟨m', hm, w'⟩ := hNx1 _ nx
        have up := unpin (pl := []) I18
        refine ⟨m', hm, j + 1, _, I18.unpinned.weak (by rw [← hw15, wipe_length]) (fun j v e => by rw [← hw15] at e; exact (wipe_some e).1), T1.keep _ _ _ st14 fun b hb o e => (up b hb o e).1, fun b hb => ?_, w'⟩
        obtain ⟨o, e, _⟩ := T1.obj _ _ st14 b hb
        exact (up b hb o e).2
    exact dstart_in loop1 (T1.self X.A 0 _ _ _ st11 loop1)
end
end RF

set_option Elab.async false
set_option linter.all false
set_option maxRecDepth 100000
set_option maxHeartbeats 8000000
set_option autoImplicit false
namespace RF
open PySem PySem.Spec PyProof.Rows L2

/-! ### what an expression gives, held fast from then on -/
def eFz (t : TE) : TE := fun σ H Q => t σ H fun v H1 => Q v H1 ∨ ∃ a u, v = .ref a ∧ H1 a = some u ∧ Mut (some u) ∧ ∀ od, Q v (upd H1 a (.frz od u))
theorem pe_fz {X : Cx} {e : Expr} {t : TE} (h : PE X e t) : PE X e (eFz t) := by
  refine ⟨fun pins s σ H Q I hw => ?_⟩
  refine thn (h.run pins s σ H _ I hw) fun v s1 ⟨x, H1, I1, r, q⟩ => ?_
  rcases q with q | ⟨a, u, e, hu, mu, q⟩
  · exact ⟨x, H1, I1, r, q⟩
  · obtain ⟨od, I2⟩ := I1.lock hu mu
    exact ⟨x, _, I2, r, q od⟩
/-- a thing is held fast from then on, then the statement -/
def tFz (t : TS) : TS := fun E σ H => t E σ H ∨ ∃ a u, H a = some u ∧ Mut (some u) ∧ ∀ od, t E σ (upd H a (.frz od u))
theorem ps_fz {X : Cx} {st : Stmt} {t : TS} (h : PS X st t) : PS X st (tFz t) := ⟨fun pins s σ H E I z => by
  rcases z with z | ⟨a, u, hu, mu, q⟩
  · exact h.run pins s σ H E I z
  · obtain ⟨od, I2⟩ := I.lock hu mu
    exact h.run pins s σ _ E I2 (q od)⟩
/-- name = {..} on one line, the name a local; what is made may be held fast -/
theorem ps_setDc {X : Cx} {kx vx tg iter : Expr} {ifs : List Expr} {scope : Scope} {own : List (Str × Nat)} {pos spos py : Pos} {wi : TI} {i : Nat} {y : Str} {g : TG} {tt : TT} {tk tv : TE} {k : Nat} (hr : Room k X.A) (hc : X.calm = true) (hN : X.N.Nodup) (hy : X.N[i]? = some y) (hyl : X.env.scope.names.lookup y = some .local)
    (hsw : swapsWith (.DictComp kx vx [⟨tg, iter, ifs, 0⟩] scope pos) (some (.Name y py)) spos.line X.env = pure true) (hi : PI X tg iter wi) (ok : BlkOk X.N X.env.scope scope own)
    (hg : ∀ (s : Shared) (H : Hp) (C : Addr) (cl : List (Str × Addr)) (fp : List Addr), PG (X.blk s H scope (compEnvC scope cl C X.env) fp) tg g) (ht : ∀ (s : Shared) (H : Hp) (C : Addr) (cl : List (Str × Addr)) (fp : List Addr), PTs (X.blk s H scope (compEnvC scope cl C X.env) fp) ifs tt)
    (hk : ∀ (s : Shared) (H : Hp) (C : Addr) (cl : List (Str × Addr)) (fp : List Addr), PE (X.blk s H scope (compEnvC scope cl C X.env) fp) kx tk) (he : ∀ (s : Shared) (H : Hp) (C : Addr) (cl : List (Str × Addr)) (fp : List Addr), PE (X.blk s H scope (compEnvC scope cl C X.env) fp) vx tv)
    (hs : ∀ x, foldedSetIterable iter X.env x = pure x := by intro _; rfl) : PS X (.Assign [.Name y py] (.DictComp kx vx [⟨tg, iter, ifs, 0⟩] scope pos) spos) (tAsg (eFz (tDcU wi g tt tk tv (own.map (·.2)))) (gName i)) := by
  refine ⟨fun pins s σ H D I h => ?_⟩
  rw [exec_Assign_Name_used _ _ _ _ hsw]
  refine wpAny_bind (wpAny_standAt (wpAny_bind ?_))
  show wpAny _ X.A (do let _ ← comprehension (.DictComp kx vx [⟨tg, iter, ifs, 0⟩] scope pos) scope X.env (firstIterPos [⟨tg, iter, ifs, 0⟩] pos) newDict false (eval iter X.env) (some (assign (.Name y py) X.env))) _ _ s
  have h : tDcU wi g tt tk tv (own.map (·.2)) σ H (fun v H1 => gName i v σ H1 D.nx ∨ ∃ a u, v = .ref a ∧ H1 a = some u ∧ Mut (some u) ∧ ∀ od, gName i v σ (upd H1 a (.frz od u)) D.nx) := h
  refine wpAny_bind (thn (dcU_core (Qf := fun _ s' => SP X pins D .next s') hr hc hN I hi ok hg ht hk he hs h fun L C s' m H' I' q hn f => ?_) fun _ s' hq => wpAny_pure (wpAny_pure hq))
  show wpAny _ _ (assign (.Name y py) X.env (.ref L)) _ _ _
  refine wpAny_assign_Name (store_ok2 (v := V.ref L) I' hN hy (.inl hyl) rfl (fun s2 I2 ⟨a, sb, ha⟩ => ?_) (.inr hyl))
  obtain ⟨f0, f1, f2, f3, f4, f5⟩ := f
  have haC : C ≠ a := by
    rcases ha with z | z
    · rw [z]; exact f1
    · exact fun e => f4 y a z e.symm
  refine ⟨m, hn.sameBut sb haC, fun h3 sb3 => ?_⟩
  have I3 := I2.turned (t' := s2.toks) (fun b o hb e => (sb3.2 b hb).trans e) f0 f1 f3 f4 f5
  rcases q with q | ⟨b, u, e, hu, mu, q⟩
  · exact ⟨_, H', I3, q⟩
  · obtain ⟨od, I4⟩ := I3.lock hu mu
    exact ⟨_, _, I4, q od⟩
theorem sw_trueD {kx vx : Expr} {gs : List Comprehension} {scope : Scope} {pos py : Pos} {y : Str} {l : Nat} {env : Env} (hk : env.scope.kind = .function) (hy : env.scope.names.lookup y = some .local) (hl : (py.line == pos.line) = true)
    (ha : (scope.names.any fun (n, k) => n == y && (k == .local || k == .cell)) = false) : swapsWith (.DictComp kx vx gs scope pos) (some (.Name y py)) l env = pure true := by
  have ky : env.kindOf y = some .local := hy
  have hb : env.blockKind = .function := by unfold Env.blockKind; rw [hk]; rfl
  unfold swapsWith
  simp only [hb, ky, ha, Expr.pos, hl]
  rfl
/-! ### len(d) -/
def rLenDD : List V → Hp → VK → Prop := fun xs H Q => ∃ a, xs = [V.ref a] ∧ ((∃ kvs, Rd H a (.dK kvs) ∧ Q (.int ((kvs.length : Nat) : Int)) H) ∨ ∃ kvs, Rd H a (.dT kvs) ∧ Q (.int ((kvs.length : Nat) : Int)) H)
theorem call_lenDD {X : Cx} : CallR X (.builtin "len") rLenDD := by
  intro pins s σ H xs us Q I r h
  obtain ⟨a, rfl, h⟩ := h
  obtain ⟨u, rfl, ru⟩ := vals1 r
  cases ru
  rcases h with ⟨kvs, ha, q⟩ | ⟨kvs, ha, q⟩
  · exact d_len I ha fun t s' I' => ⟨.int kvs.length, H, I', ⟨t, rfl⟩, q⟩
  · obtain ⟨z, hd, ys, rel, dd⟩ := dt_rd I.hok ha
    have hl : kvs.length = ys.length := Paired.length rel
    refine call_len_dictH hd dd (by rw [← hl]; rw [sizeLine_eq] at z; omega) ?_
    rw [← hl]
    exact ⟨.int ((kvs.length : Nat) : Int), H, I.tok _, ⟨_, rfl⟩, q⟩
/-! ### d.items(), the keys tuples -/
section
variable {X : Cx} {pins : List (Addr × Obj)} {σ : L2.St} {H : Hp} {s : Shared} {d : Addr} {o : Obj}
theorem frzT2 {kvs : List (List Key × V)} (I : Inv X pins σ H s) (h : H d = some (.frz o (.dT kvs))) :
    (d == sysModules) = false ∧ s.heap.get? d = some o ∧ o.ExactDict ∧ ∃ (es : Array DictEntry) (ep : Nat), o.data = .dict es ep ∧ es.size = kvs.length ∧
      ∀ (i : Nat) (k : List Key) (v : V) (hi : i < es.size), kvs[i]? = some (k, v) → ∃ (q : Addr) (u : Value), es[i].key = .ref q ∧ es[i].val = u ∧ RelV v u ∧ H q = some (.tup (k.map kV)) := by
  obtain ⟨hd, z, hs, xs, pr, o', es, ep, ho, hx, hdt, he, _⟩ := I.hok d _ h
  rw [hd] at ho
  cases ho
  refine ⟨hs, hd, hx, es, ep, hdt, ?_, fun i k v hi e => ?_⟩
  · have l1 : es.size = xs.length := size_of_entries he
    have l2 : kvs.length = xs.length := Paired.length pr
    omega
  · obtain ⟨b, hb, e1, e2, e3⟩ := paired_get pr e
    have q := entry_at he i
    rw [hb, Array.getElem?_eq_getElem hi] at q
    have q := Option.some.inj q
    rw [q]
    exact ⟨b.2.1, b.2.2, rfl, rfl, e3, e2⟩
end
def ItiT (d : Addr) (o : Obj) (kvs : List (List Key × V)) : It :=
  ⟨fun i H => H d = some (.frz o (.dT kvs)) ∧ i < kvs.length, fun i H x H' => ∃ T k v q, kvs[i]? = some (k, v) ∧ H q = some (.tup (k.map kV)) ∧ x = .ref T ∧ H T = none ∧ H' = upd H T (.tup [.ref q, v]), fun i H => H d = some (.frz o (.dT kvs)) ∧ kvs.length ≤ i⟩
theorem turn_itemsT {P : Program} {w : World} {K : PySem.W.Frag} {d : Addr} {o : Obj} {es : Array DictEntry} {ep : Nat} {kvs : List (List Key × V)} {elts : List Expr} {kk : Nat} {tpos : Pos} (it : Addr) (hod : o.data = .dict es ep) :
    Turn P w K (.Tuple elts kk tpos) (ItiT d o kvs) [it] it (fun i h => ∃ ok ov, IsItemIter h it d i kvs.length ep ok ov) where
  mem := by simp
  obj := fun i h st b hb => by
    have e : b = it := by simpa using hb
    subst e
    obtain ⟨ok, ov, e⟩ := st
    exact ⟨_, e, fun v z => nomatch z⟩
  keep := fun i h h' st k => let ⟨ok, ov, e⟩ := st; ⟨ok, ov, k it (by simp) _ e⟩
  item := by
    intro X hP hw hK hc i pins s σ H E I hf st hg
    subst hP hw hK
    obtain ⟨hd, hi⟩ := hg
    obtain ⟨hs, hgd, hx, es', ep', hdt, hsz, ent⟩ := frzT2 I hd
    obtain ⟨rfl, rfl⟩ := dict_ep hod hdt
    obtain ⟨⟨k, v⟩, hkv⟩ : ∃ p, kvs[i]? = some p := ⟨kvs[i], List.getElem?_eq_getElem hi⟩
    have hi' : i < es'.size := by omega
    obtain ⟨q, u, e1, e2, ru, hq⟩ := ent i k v hi' hkv
    obtain ⟨ok, ov, he⟩ := st
    rw [← hsz] at he
    have hlt : it < s.heap.objs.size := Heap.lt_size he
    refine wpAny_pyNext_items_item_raw he ⟨o, hgd, hx, hdt⟩ hi' fun h' ho hT hz hk => ?_
    refine ⟨_, rfl, wpAny_letOwnedTupleGo_items (s := { s with heap := h' }) ho fun h'' he' sb => ?_⟩
    have hT2 : h''.get? s.heap.objs.size = some { cls := .type "tuple", data := .seq #[es'[i].key, es'[i].val] } := (sb.2 _ (Nat.ne_of_gt hlt)).trans hT
    have new : ObjOk X.prog X.w (upd H s.heap.objs.size (.tup [.ref q, v])) h'' s.heap.objs.size (.tup [.ref q, v]) :=
      ⟨by show 2 ≤ sizeLine; decide, [es'[i].key, es'[i].val], .cons (show es'[i].key = Value.ref q from e1) (.cons (by rw [e2]; exact ru) .nil), ⟨_, hT2, rfl, _, rfl⟩⟩
    have I1 : Inv X pins σ (upd H s.heap.objs.size (.tup [.ref q, v])) { s with heap := h'' } :=
      I.turnedNew (t' := s.toks) (ch := [it]) (fun b ob hb e => (sb.2 b (by simpa using hb)).trans (hk b ob (by simpa using hb) e)) hf (Nat.le_refl _) new
    refine ⟨.ref s.heap.objs.size, _, I1, rfl, ⟨_, k, v, q, hkv, hq, rfl, I.hok.fresh (Nat.le_refl _), rfl⟩, ⟨es'[i].key, es'[i].val, ?_⟩, fun b hb => ?_⟩
    · rw [← hsz]; exact he'
    · have e : b = it := by simpa using hb
      rw [e, upd_ne (Nat.ne_of_lt hlt)]
      exact (hf it (by simp)).1
  done := by
    intro X hP hw hK hc i pins s σ H E I hf st hg
    subst hP hw hK
    obtain ⟨hd, hi⟩ := hg
    obtain ⟨f0, f1, f2, f3, f4, f5⟩ := hf it (by simp)
    obtain ⟨hs, hgd, hx, es', ep', hdt, hsz, ent⟩ := frzT2 I hd
    obtain ⟨rfl, rfl⟩ := dict_ep hod hdt
    obtain ⟨ok, ov, he⟩ := st
    rw [← hsz] at he
    exact wpAny_pyNext_items_end_raw (I.ok.hd hc) he ⟨o, hgd, hx, hdt⟩ (by omega) fun h' eb => ⟨rfl, I.turned (t' := s.toks) (fun b ob hb e => eb b ob hb e) f0 f1 f3 f4 f5⟩
  self := fun A i s Q E st h => let ⟨_, _, e⟩ := st; PySem.W.kcp_self e h
def iItemsT (td : TE) : TI := fun σ H R => td σ H fun x H1 => ∃ d o kvs, x = .ref d ∧ H1 d = some (.frz o (.dT kvs)) ∧ R (ItiT d o kvs) H1
theorem pi_itemsT {X : Cx} {e : Expr} {td : TE} {apos cpos : Pos} {elts : List Expr} {kk : Nat} {tpos : Pos} (he : PE X e td) (hbase : attributeBase e "items" X.env (eval e X.env) = eval e X.env := by rfl) (hline : (apos.endLine == cpos.line) = true := by rfl) :
    PI X (.Tuple elts kk tpos) (.Call (.Attribute e "items" apos) [] [] cpos) (iItemsT td) := by
  refine ⟨fun pins s σ H R I h => ?_⟩
  refine wpAny_Call_method (T := "dict") (id := "dict.items") hbase rfl hline F.plainAttrs_dict F.slot_dict_items F.type_dict_items (thn (he.run pins s σ H _ I h) fun u s1 ⟨x, H1, I1, rx, d, o, kvs, ex, hd, q⟩ => ?_)
  subst ex
  obtain rfl : u = Value.ref d := rx
  obtain ⟨hs, hgd, hx, es, ep, hdt, hsz, ent⟩ := frzT2 I1 hd
  have raw : s1.heap.DictRaw d es ep := ⟨o, hgd, hx, hdt⟩
  refine ⟨raw.typeIs, ?_, ?_⟩
  · exact fun ob e => by cases e; exact ⟨o, hgd, hx.2.1⟩
  have I2 : Inv X pins σ H1 { s1 with heap := s1.heap.push { cls := .type "dict_items", data := .fields #[.ref d] } } := I1.kept (t' := s1.toks) fun b ob q => Heap.get?_push_of_some _ q
  have fin : wpAny (model X.prog X.w) X.A (pyIter (.ref s1.heap.objs.size)) (PIE X pins σ (.Tuple elts kk tpos) R) X.xe { s1 with heap := s1.heap.push { cls := .type "dict_items", data := .fields #[.ref d] } } := by
    refine wpAny_pyIter_items_raw (d := d) ⟨_, Heap.get?_push_size _ rfl, rfl, rfl⟩ (raw.at fun ob e => Heap.get?_push_of_some _ e) (pi_one (tk := s1.toks) I2 _ (turn_itemsT _ hdt) ⟨.none, .none, ?_⟩ q)
    rw [← hsz]
    exact Heap.get?_push_size _ rfl
  show wpAny _ _ (callWith cpos (.builtin "dict.items") [.ref d] [] []) _ X.xe s1
  exact method_meetsIn F.slot_dict_items F.entry_dict_items rfl (PySem.evalArgs_none ⟨rfl, raw.typeIs, F.args_dict_items_1 _, _, meets_dict_items_raw d hs, ⟨es, ep, raw⟩, fin⟩)
end RF

set_option Elab.async false
set_option linter.all false
set_option maxRecDepth 100000
set_option maxHeartbeats 8000000
set_option autoImplicit false
namespace RF
open PySem PySem.Spec PyProof.Rows L2

/-! ### dict(pairs), the keys tuples that differ -/
def rDictPT (K : PySem.W.Frag) : List V → Hp → VK → Prop := fun xs H Q => ∃ (a : Addr) (ps : List Addr) (kvs : List (List Key × Addr × V)), xs = [.ref a] ∧ SqL K H a (ps.map V.ref) ∧ Paired (fun p kv => SqT K H p [.ref kv.2.1, kv.2.2] ∧ H kv.2.1 = some (.tup (kv.1.map kV))) ps kvs ∧
  (kvs.map (·.1)).Nodup ∧ ∀ p, H p = none → Q (.ref p) (upd H p (.dT (kvs.map fun x => (x.1, x.2.2))))
theorem pairsT_of {X : Cx} {pins : List (Addr × Obj)} {σ : L2.St} {H : Hp} {s : Shared} (I : Inv X pins σ H s) : ∀ {ps : List Addr} {kvs : List (List Key × Addr × V)}, Paired (fun p kv => SqT X.K H p [.ref kv.2.1, kv.2.2] ∧ H kv.2.1 = some (.tup (kv.1.map kV))) ps kvs →
    ∃ prs : List (List Key × Addr × Value), Paired (fun (p : List Key × Addr × V) (q : List Key × Addr × Value) => p.1 = q.1 ∧ p.2.1 = q.2.1 ∧ H q.2.1 = some (.tup (q.1.map kV)) ∧ RelV p.2.2 q.2.2) kvs prs ∧ prs.length = ps.length ∧ ∀ (j : Nat) (q : List Key × Addr × Value), prs[j]? = some q → ∃ (b : Addr), ps[j]? = some b ∧ IsTup s.heap b #[.ref q.2.1, q.2.2]
  | _, _, .nil => ⟨[], .nil, rfl, fun j q e => by simp at e⟩
  | _, _, .cons (a := p) (b := kv) h t => by
    obtain ⟨prs, r, hl, hp⟩ := pairsT_of I t
    obtain ⟨its, rv, ht, _⟩ := I.tuple h.1
    obtain ⟨u, y, ei, ru, ry⟩ := vals2 rv
    subst ei
    have ru : u = Value.ref kv.2.1 := ru
    subst ru
    refine ⟨(kv.1, kv.2.1, y) :: prs, .cons ⟨rfl, rfl, h.2, ry⟩ r, by rw [List.length_cons, List.length_cons, hl], fun j q e => ?_⟩
    cases j with
    | zero =>
      have e' : (kv.1, kv.2.1, y) = q := Option.some.inj e
      subst e'
      exact ⟨p, rfl, ht⟩
    | succ j =>
      obtain ⟨b, e1, e2⟩ := hp j q (by simpa using e)
      exact ⟨b, by simpa using e1, e2⟩
theorem storedAll_new {K : Type} [DecidableEq K] : ∀ (ps acc : List (K × Addr × Value)), ((acc ++ ps).map (·.1)).Nodup → storedAllH acc ps = acc ++ ps
  | [], acc, _ => by rw [List.append_nil]; rfl
  | (k, b, v) :: r, acc, h => by
    have e : storedH acc k b v = acc ++ [(k, b, v)] := by
      refine storedH_new ?_ b v
      cases z : atKey acc k with
      | none => rfl
      | some q =>
        exfalso
        rw [List.map_append, List.nodup_append] at h
        have : k ∈ acc.map (·.1) := by
          unfold atKey at z
          obtain ⟨y, hy, e⟩ := Option.map_eq_some_iff.mp z
          have h1 := List.find?_some hy
          have h2 := List.mem_of_find?_eq_some hy
          exact List.mem_map.mpr ⟨y, h2, of_decide_eq_true h1⟩
        exact h.2.2 k this k (by simp) rfl
    show storedAllH (storedH acc k b v) r = _
    rw [e, storedAll_new r (acc ++ [(k, b, v)]) (by rw [List.append_assoc]; exact h), List.append_assoc]
    rfl
theorem call_dictPT {X : Cx} {k : Nat} (hr : Room k X.A) (hcalm : X.calm = true) : CallR X (.type "dict") (rDictPT X.K) := by
  intro pins s σ H xs us Q I r q
  obtain ⟨a, ps, kvs, ex, hq, hp, hn, q⟩ := q
  subst ex
  obtain ⟨u, eu, rx⟩ := vals1 r
  subst eu
  cases rx
  obtain ⟨its, rv, pl, hz⟩ := I.list hq
  have ei := refs_at rv
  subst ei
  rw [List.length_map] at hz
  obtain ⟨prs, rel, hl, hpr⟩ := pairsT_of I hp
  obtain ⟨o, n, ho, hc, hd, hdat⟩ := pl
  have keys : kvs.map (·.1) = prs.map (·.1) := by
    clear hn hpr hl hp q
    induction rel with
    | nil => rfl
    | cons h t ih => rw [List.map_cons, List.map_cons, ih, h.1]
  have isk : ∀ x ∈ prs, H x.2.1 = some (.tup (x.1.map kV)) := by
    clear hn hpr hl hp q keys
    induction rel with
    | nil => exact fun _ h => nomatch h
    | cons h t ih =>
      intro x hx
      rcases List.mem_cons.mp hx with z | z
      · rw [z]; exact h.2.2.1
      · exact ih x z
  have hps : (prs.map fun x : List Key × Addr × Value => (Value.ref x.2.1, x.2.2)).length = prs.length := List.length_map _
  refine call_dict_pairsH (knd := tupleKind (mixKind X.prog X.w)) (ps := prs) (PairArg.list a (ps.map Value.ref).toArray (fun j => (ps[j]?).getD 0) (prs.map fun x => (Value.ref x.2.1, x.2.2))) (I.ok.hd hcalm) (show X.A.units + 1 + 1 < cLine by have := hr.units; omega) ⟨⟨o, n, ho, hc, hd, hdat⟩, by simp [hl], fun j kk v e => ?_⟩ ⟨hps.symm, fun i kk v e => ?_⟩ (fun h' hk x hx => ?_) (by rw [hps, hl]; exact hz) fun h' tk hd' kp => ?_
  · rw [List.getElem?_map] at e
    cases hx : prs[j]? with
    | none => rw [hx] at e; cases e
    | some x =>
      rw [hx] at e
      cases e
      obtain ⟨b, e1, e2⟩ := hpr j x hx
      refine ⟨by simp [e1], .inl ?_⟩
      show s.heap.IsTuple ((ps[j]?).getD 0) _
      rw [e1]
      obtain ⟨ob, f1, f2, m, f3⟩ := e2
      exact ⟨ob, f1, f2, m, f3⟩
  · have e : (prs.map fun x => (Value.ref x.2.1, x.2.2))[i]? = some (kk, v) := e
    rw [List.getElem?_map] at e
    cases hx : prs[i]? with
    | none => rw [hx] at e; cases e
    | some x =>
      rw [hx] at e
      cases e
      exact ⟨x.1, x.2.1, rfl, rfl⟩
  · have q0 : (tupleKind (mixKind X.prog X.w)).is s.heap x.1 x.2.1 := key_of I.hok (isk x hx)
    exact tupleKind_stays.stays (fun b ob _ _ e _ => hk b ob (Nat.ne_of_lt (Heap.lt_size e)) (fun z => nomatch z) e) q0
  · rw [storedAll_new prs [] (by rw [List.nil_append, ← keys]; exact hn), List.nil_append] at hd'
    obtain ⟨oo, es, ep, h1, h2, h3, h4, h5, h6⟩ := hd'
    have hm : (s.heap.objs.size == sysModules) = false := beq_eq_false_iff_ne.mpr (Nat.ne_of_gt I.big)
    have hl2 : kvs.length = prs.length := Paired.length rel
    have hnone : H s.heap.objs.size = none := I.hok.fresh (Nat.le_refl _)
    have pr : Paired (fun (p : List Key × V) (q : List Key × Addr × Value) => p.1 = q.1 ∧ (upd H s.heap.objs.size (.dT (kvs.map fun x => (x.1, x.2.2)))) q.2.1 = some (.tup (p.1.map kV)) ∧ RelV p.2 q.2.2) (kvs.map fun x => (x.1, x.2.2)) prs := by
      generalize HO.dT (kvs.map fun x => (x.1, x.2.2)) = ob
      clear hn hpr hl hp q keys isk hps h1 h2 h3 h4 h5 h6 hl2 kp
      induction rel with
      | nil => exact .nil
      | cons h t ih =>
        refine .cons ⟨h.1, ?_, h.2.2.2⟩ ih
        rw [upd_ne (ne_of_none h.2.2.1 hnone), h.2.2.1]
        show some (HO.tup _) = some (HO.tup _)
        rw [← h.1]
    exact ⟨.ref s.heap.objs.size, _, I.laid (t' := tk) (fun b ob e => kp b ob (fun z => nomatch z) e) (Nat.le_refl _) (show ObjOk X.prog X.w _ _ _ (.dT (kvs.map fun x => (x.1, x.2.2))) from ⟨by rw [List.length_map, hl2, hl]; exact hz, hm, prs, pr, oo, es, ep, h1, h2, h3, h4, h6⟩), rfl, q _ hnone⟩
end RF

set_option Elab.async false
set_option linter.all false
set_option maxRecDepth 100000
set_option maxHeartbeats 8000000
set_option autoImplicit false
namespace RF
open PySem PySem.Spec PyProof.Rows L2
/-! ### t * 1, () * n: the tuple itself -/
theorem tuple_mulS (l : Addr) (items : Array Value) (n : Nat) (dd : Option Addr) (sl : Array (Option Value)) (x : Int) (u : Tok) (c0 : (decide (x < -(2 ^ 63)) || decide (x ≥ 2 ^ 63)) = false) (c1 : (items.isEmpty || x == 1) = true) :
    Meets (Builtin.«tuple.__mul__» ⟨[.ref l, .int x u], []⟩) (fun _ R s => s.heap.get? l = some { cls := .type "tuple", dict := dd, data := .seq items n, slots := sl } ∧ R (.ok (.ret (Value.ref l))) s) :=
  .of_wp fun prog w A R s h => by
    obtain ⟨hp, g, d, tk, os⟩ := s
    obtain ⟨hl, h⟩ := h
    have f1 := AutoSeq1.idx_int
    wp_walk using wpAny_loadPart' hl
    repeat (first
      | (refine wpAny_ite_false (decide_eq_false (by rw [c0]; exact Bool.false_ne_true)) ?_; wp_walk using wpAny_loadPart' hl)
      | (refine wpAny_ite_true (decide_eq_true c1) ?_; wp_walk using wpAny_loadPart' hl))
    exact ⟨_, rfl, h⟩
def rRepS (K : PySem.W.Frag) : R2 := fun x y H Q => ∃ l k xs, x = .ref l ∧ y = .int k ∧ SqT K H l xs ∧ (xs = [] ∨ k = 1) ∧ -1000 ≤ k ∧ k ≤ 1000 ∧ Q (.ref l) H
theorem op_repS {X : Cx} : OpR X (binaryOp .Mult) (rRepS X.K) := by
  intro pins s σ H x y v u Q I rx ry h
  obtain ⟨l, k, xs, rfl, rfl, hT, hne, h1, h2, q⟩ := h
  cases rx
  obtain ⟨t, rfl⟩ := ry
  obtain ⟨its, r, ⟨⟨cls, dd, data, sl⟩, ho, hc, n, hd⟩, hs⟩ := I.tuple hT
  simp only at hc hd
  subst hc hd
  have hle : its.length = xs.length := r.length.symm
  have c0 : (decide (k < -(2 ^ 63)) || decide (k ≥ 2 ^ 63)) = false := by
    rw [decide_eq_false (by omega), decide_eq_false (by omega)] <;> rfl
  have c1 : (its.toArray.isEmpty || k == 1) = true := by
    rcases hne with e | e
    · have : its = [] := List.eq_nil_of_length_eq_zero (by rw [hle, e]; rfl)
      rw [this]
      rfl
    · rw [e]
      simp
  refine wpAny_binaryOp_repeat_ref (T := "tuple") (U := "int") (by decide) ⟨_, ho, rfl⟩ (fun s' => typeIs_int s' k t) noFill_tuple_mul F.fills_int_mul F.slot_int_rmul repeat_tuple F.slot_int_index.lookup
    (call_meets F.slot_int_rmul (typeIs_int s k t) F.entry_int_rmul (F.args_int_rmul_2 _ _) (int_rmul_tuple k t l its.toArray n dd sl)
      ⟨ho, rfl, ⟨_, ho, rfl⟩, call_meets F.slot_tuple_mul ⟨_, ho, rfl⟩ F.entry_tuple_mul (F.args_tuple_mul_2 _ _) (tuple_mulS l its.toArray n dd sl k t c0 c1) ⟨ho, ?_⟩⟩)
  exact ⟨.ref l, H, I, rfl, q⟩
/-! ### list + list, whatever lists -/
def rCatL (K : PySem.W.Frag) : R2 := fun x y H Q => ∃ l b xs zs, x = .ref l ∧ y = .ref b ∧ SqL K H l xs ∧ SqL K H b zs ∧ xs.length + zs.length ≤ sizeLine ∧ ∀ p, H p = none → Q (.ref p) (upd H p (.lst (xs ++ zs)))
theorem op_catL {X : Cx} : OpR X (binaryOp .Add) (rCatL X.K) := by
  intro pins s σ H x y v u Q I rx ry h
  obtain ⟨l, b, xs, zs, rfl, rfl, hl, hb, hz, q⟩ := h
  cases rx
  cases ry
  obtain ⟨its, r, ⟨⟨cls, dd, data, sl⟩, n, ho, hc, hd, hs⟩, _⟩ := I.list hl
  obtain ⟨its2, r2, ⟨⟨cls2, dd2, data2, sl2⟩, n2, ho2, hc2, hd2, hs2⟩, _⟩ := I.list hb
  simp only at hc hd hs hc2 hd2 hs2
  subst hc hd hs hc2 hd2 hs2
  have h1 := r.length
  have h2 := r2.length
  have hsz : its.toArray.size + its2.toArray.size ≤ sizeLine := by rw [List.size_toArray, List.size_toArray]; omega
  refine concat_meets ⟨_, ho, rfl⟩ ⟨_, ho2, rfl⟩ noFill_list_add seq_list_add PySem.F.slot_list_add PySem.F.entry_list_add (PySem.F.args_list_add_2 _ _) (list_addW l b its.toArray its2.toArray n n2 _ _ sl sl2 hsz) ⟨ho, ho2, ?_⟩
  have ea : its.toArray ++ its2.toArray = (its ++ its2).toArray := by simp
  rw [ea]
  exact ⟨.ref _, _, I.lnew (t' := s.toks) (r.append r2) (by rw [List.length_append]; omega), rfl, q _ I.fresh⟩
/-! ### xs[::2], xs[1::2] -/
/-- every second one, from s on (s is 0 or 1) -/
def stepN {α : Type} (s : Nat) (xs : List α) : List α := (List.range ((xs.length + 1 - s) / 2)).filterMap fun k => xs[2 * k + s]?
theorem range_step (s n : Nat) (hs : s ≤ 1) (hn : s ≤ n) : sliceRange (s : Int) (n : Int) 2 = (List.range ((n + 1 - s) / 2)).map fun k => 2 * k + s := by
  unfold sliceRange
  have e : (if (2 : Int) > 0 then (if (s : Int) < (n : Int) then ((n : Int) - (s : Int) + 2 - 1) / 2 else 0) else (if (s : Int) > (n : Int) then ((s : Int) - (n : Int) - 2 - 1) / (-2) else 0)).toNat = (n + 1 - s) / 2 := by
    rw [if_pos (by decide)]
    split <;> omega
  simp only [e]
  refine List.map_congr_left fun k _ => ?_
  omega
theorem bounds_0 (n : Nat) : sliceBounds none none (some 2) n = (0, (n : Int), 2) := by
  first
  | rfl
  | simp [sliceBounds]
theorem bounds_1 (n : Nat) (h : 1 ≤ n) : sliceBounds (some 1) none (some 2) n = (1, (n : Int), 2) := by
  simp [sliceBounds]
  omega
theorem vals_pick {xs : List V} {its : List Value} (r : Vals xs its) : ∀ ks : List Nat, Vals (ks.filterMap fun k => xs[k]?) (ks.filterMap fun k => its[k]?)
  | [] => .nil
  | k :: ks => by
    cases e : xs[k]? with
    | none =>
      have e2 := r.none_of e
      rw [List.filterMap_cons_none (by rw [e]), List.filterMap_cons_none (by rw [e2])]
      exact vals_pick r ks
    | some x =>
      obtain ⟨u, hu, ru⟩ := r.get e
      rw [List.filterMap_cons_some (by rw [e]), List.filterMap_cons_some (by rw [hu])]
      exact .cons ru (vals_pick r ks)
def tStepL (K : PySem.W.Frag) (s : Nat) (te : TE) : TE := fun σ H Q => te σ H fun x H1 => ∃ a xs, x = .ref a ∧ SqL K H1 a xs ∧ s ≤ xs.length ∧ ∀ p, H1 p = none → Q (.ref p) (upd H1 p (.lst (stepN s xs)))
theorem stepN_le {α : Type} (s : Nat) (xs : List α) : (stepN s xs).length ≤ xs.length := by
  unfold stepN
  refine Nat.le_trans (List.length_filterMap_le _ _) ?_
  rw [List.length_range]
  omega
section
variable {X : Cx} {e : Expr} {te : TE} {k k1 : Nat} {p1 p2 p3 pos : Pos}
theorem step_pick {xs : List V} {its : List Value} (r : Vals xs its) {st : Nat} {lo : Option Int} (hst : st ≤ 1) (hle : st ≤ xs.length) (hb : sliceBounds lo none (some 2) xs.length = ((st : Int), (xs.length : Int), 2)) : ∃ ys : List Value, slicePick its.toArray lo none (some 2) = ys.toArray ∧ Vals (stepN st xs) ys := by
  have hlen : its.toArray.size = xs.length := by rw [List.size_toArray]; exact r.length.symm
  refine ⟨((List.range ((xs.length + 1 - st) / 2)).map fun k => 2 * k + st).filterMap fun k => its[k]?, ?_, ?_⟩
  · unfold slicePick
    rw [hlen, hb]
    show ((sliceRange (st : Int) (xs.length : Int) 2).filterMap (its.toArray[·]?)).toArray = _
    rw [range_step st xs.length hst hle]
    simp
  · have z := vals_pick r ((List.range ((xs.length + 1 - st) / 2)).map fun k => 2 * k + st)
    rw [List.filterMap_map] at z
    exact z
theorem pe_step0 (he : PE X e te) : PE X (.Subscript e (.Slice none none (some (.Constant (.int 2) k p1)) p3) pos) (tStepL X.K 0 te) := by
  refine ⟨fun pins s σ H Q I h => ?_⟩
  refine Subscript_ (thn (he.run pins s σ H _ I h) fun v s1 ⟨x, H1, I1, r1, q1⟩ => ?_)
  obtain ⟨a, xs, ex, hx, hle, q⟩ := q1
  subst ex
  cases r1
  have hst : PO X (some (.Constant (.int 2) k p1)) (tPart (tC (.int 2))) := po_some pe_int
  refine wpAny_Slice (thn (po_none.run pins s1 σ H1 (fun o H2 => o = none ∧ H2 = H1) I1 ⟨rfl, rfl⟩) fun vl s2 ⟨l, H2, I2, pl, el, e2⟩ => ?_)
  subst el e2
  refine thn (po_none.run pins s2 σ H2 (fun o H3 => o = none ∧ H3 = H2) I2 ⟨rfl, rfl⟩) fun vu s3 ⟨u, H3, I3, pu, eu, e3⟩ => ?_
  subst eu e3
  refine thn (hst.run pins s3 σ H3 (fun o H4 => o = some 2 ∧ H4 = H3) I3 ⟨2, rfl, rfl, rfl⟩) fun vs s4 ⟨o, H4, I4, ps, eo, e4⟩ => ?_
  subst eo e4
  have I5 : Inv X pins σ H4 { s4 with heap := s4.heap.push { cls := .type "slice", data := .fields #[vl, vu, vs] } } := I4.kept (t' := s4.toks) fun b ob q => Heap.get?_push_of_some _ q
  obtain ⟨its, r, ht, hz⟩ := I5.list hx
  have hlen := r.length
  show wpAny (model X.prog X.w) X.A (subscriptTail e (.Slice none none (some (.Constant (.int 2) k p1)) p3) (.ref a) (.ref s4.heap.objs.size)) (EP X pins σ Q) X.xe { s4 with heap := s4.heap.push { cls := .type "slice", data := .fields #[vl, vu, vs] } }
  refine tail_any (ops := [.ref a, .ref s4.heap.objs.size]) ht.isList.typeIs (PySem.slot_list_getitem.lookup) ?_ (by with_unfolding_all rfl)
  refine wpAny_getItem_list_slice ht.isList (Heap.IsSliceOf.new _ vl vu vs) pl pu ps (by decide) ?_ (by rw [List.size_toArray]; omega)
  obtain ⟨ys, ey, ry⟩ := step_pick (lo := none) r (by decide) (Nat.zero_le _) (bounds_0 _)
  rw [ey]
  refine ⟨.ref _, _, I5.laid (t' := s4.toks) (o := .lst (stepN 0 xs)) (fun b ob q => Heap.get?_push_of_some _ q) (Nat.le_refl _) ?_, rfl, q _ (I5.hok.fresh (Nat.le_refl _))⟩
  exact ⟨Nat.le_trans (stepN_le 0 xs) hz, _, 0, ry, Heap.get?_push_size _ rfl⟩
theorem pe_step1 (he : PE X e te) : PE X (.Subscript e (.Slice (some (.Constant (.int 1) k1 p2)) none (some (.Constant (.int 2) k p1)) p3) pos) (tStepL X.K 1 te) := by
  refine ⟨fun pins s σ H Q I h => ?_⟩
  refine Subscript_ (thn (he.run pins s σ H _ I h) fun v s1 ⟨x, H1, I1, r1, q1⟩ => ?_)
  obtain ⟨a, xs, ex, hx, hle, q⟩ := q1
  subst ex
  cases r1
  have hst : PO X (some (.Constant (.int 2) k p1)) (tPart (tC (.int 2))) := po_some pe_int
  have hlo : PO X (some (.Constant (.int 1) k1 p2)) (tPart (tC (.int 1))) := po_some pe_int
  refine wpAny_Slice (thn (hlo.run pins s1 σ H1 (fun o H2 => o = some 1 ∧ H2 = H1) I1 ⟨1, rfl, rfl, rfl⟩) fun vl s2 ⟨l, H2, I2, pl, el, e2⟩ => ?_)
  subst el e2
  refine thn (po_none.run pins s2 σ H2 (fun o H3 => o = none ∧ H3 = H2) I2 ⟨rfl, rfl⟩) fun vu s3 ⟨u, H3, I3, pu, eu, e3⟩ => ?_
  subst eu e3
  refine thn (hst.run pins s3 σ H3 (fun o H4 => o = some 2 ∧ H4 = H3) I3 ⟨2, rfl, rfl, rfl⟩) fun vs s4 ⟨o, H4, I4, ps, eo, e4⟩ => ?_
  subst eo e4
  have I5 : Inv X pins σ H4 { s4 with heap := s4.heap.push { cls := .type "slice", data := .fields #[vl, vu, vs] } } := I4.kept (t' := s4.toks) fun b ob q => Heap.get?_push_of_some _ q
  obtain ⟨its, r, ht, hz⟩ := I5.list hx
  have hlen := r.length
  show wpAny (model X.prog X.w) X.A (subscriptTail e (.Slice (some (.Constant (.int 1) k1 p2)) none (some (.Constant (.int 2) k p1)) p3) (.ref a) (.ref s4.heap.objs.size)) (EP X pins σ Q) X.xe { s4 with heap := s4.heap.push { cls := .type "slice", data := .fields #[vl, vu, vs] } }
  refine tail_any (ops := [.ref a, .ref s4.heap.objs.size]) ht.isList.typeIs (PySem.slot_list_getitem.lookup) ?_ (by with_unfolding_all rfl)
  refine wpAny_getItem_list_slice ht.isList (Heap.IsSliceOf.new _ vl vu vs) pl pu ps (by decide) ?_ (by rw [List.size_toArray]; omega)
  obtain ⟨ys, ey, ry⟩ := step_pick (lo := some 1) r (by decide) hle (bounds_1 _ hle)
  rw [ey]
  refine ⟨.ref _, _, I5.laid (t' := s4.toks) (o := .lst (stepN 1 xs)) (fun b ob q => Heap.get?_push_of_some _ q) (Nat.le_refl _) ?_, rfl, q _ (I5.hok.fresh (Nat.le_refl _))⟩
  exact ⟨Nat.le_trans (stepN_le 1 xs) hz, _, 0, ry, Heap.get?_push_size _ rfl⟩
end
end RF

set_option Elab.async false
set_option linter.all false
set_option maxRecDepth 100000
set_option maxHeartbeats 8000000
set_option autoImplicit false
namespace RF
open PySem PySem.Spec PyProof.Rows L2
/-! ### zip(list, tuple) -/
def ItzM (K : PySem.W.Frag) (a b : Addr) : It :=
  ⟨fun i H => ∃ (xs ys : List V) (x y : V), SqL K H a xs ∧ SqT K H b ys ∧ xs[i]? = some x ∧ ys[i]? = some y,
    fun i H v H' => ∃ T x y, v = .ref T ∧ H T = none ∧ H' = upd H T (.tup [x, y]) ∧ (∀ xs, SqL K H a xs → xs[i]? = some x) ∧ ∀ ys, SqT K H b ys → ys[i]? = some y,
    fun i H => ∃ xs ys : List V, SqL K H a xs ∧ SqT K H b ys ∧ i ≤ xs.length ∧ i ≤ ys.length ∧ (i = xs.length ∨ i = ys.length)⟩
def ZipAt (z TI TO i1 i2 a b : Addr) (i : Nat) (h : Heap) : Prop := IsZip h z TI TO .none ∧ IsTupOf2 h TI (.ref i1) (.ref i2) ∧ (∃ x y, IsTupOf2 h TO x y) ∧ h.IsListIter i1 a i ∧ h.IsTupleIter i2 b i
theorem ne_sep {z TI TO i1 i2 a b : Addr} (S : ZipSep2 z TI TO i1 i2 [i1, a] [i2, b]) : a ≠ z ∧ a ≠ TO ∧ b ≠ z ∧ b ≠ TO := ⟨fun e => S.zf1 (by simp [e]), fun e => S.Tf1 (by simp [e]), fun e => S.zf2 (by simp [e]), fun e => S.Tf2 (by simp [e])⟩
theorem turn_zipM {P : Program} {w : World} {K : PySem.W.Frag} {elts : List Expr} {kk : Nat} {tpos : Pos} {a b z TI TO i1 i2 : Addr} (S : ZipSep2 z TI TO i1 i2 [i1, a] [i2, b]) (na : a ≠ i1) (nb : b ≠ i2) :
    Turn P w K (.Tuple elts kk tpos) (ItzM K a b) [z, TI, TO, i1, i2] z (ZipAt z TI TO i1 i2 a b) := by
  have five : ∀ {c : Addr}, c ∈ [z, TI, TO, i1, i2] → c = z ∨ c = TI ∨ c = TO ∨ c = i1 ∨ c = i2 := fun {c} h => by simpa using h
  have there : ∀ {i : Nat} {h : Heap}, ZipAt z TI TO i1 i2 a b i h → ∀ c ∈ [z, TI, TO, i1, i2], ∃ o, h.get? c = some o ∧ ∀ v, o.data ≠ .cell v := fun {i h} st c hc => by
    obtain ⟨q1, q2, ⟨x, y, q3⟩, ⟨o1, e1, _, d1⟩, ⟨o2, e2, _, d2⟩⟩ := st
    rcases five hc with e | e | e | e | e <;> subst e
    · exact ⟨_, q1, fun v e => nomatch e⟩
    · exact ⟨_, q2, fun v e => nomatch e⟩
    · exact ⟨_, q3, fun v e => nomatch e⟩
    · exact ⟨o1, e1, fun v e => by rw [d1] at e; cases e⟩
    · exact ⟨o2, e2, fun v e => by rw [d2] at e; cases e⟩
  refine ⟨by simp, fun i h st => there st, fun i h h' st k => ?_, ?_, ?_, fun A i s Q E st h => wpAny_pyIter_zip st.1 h⟩
  · obtain ⟨q1, q2, ⟨x, y, q3⟩, q4, q5⟩ := st
    exact ⟨k z (by simp) _ q1, k TI (by simp) _ q2, ⟨x, y, k TO (by simp) _ q3⟩, q4.at fun o e => k i1 (by simp) o e, q5.at fun o e => k i2 (by simp) o e⟩
  · intro X eP ew eK calm i pins s σ H E I fp st go
    subst eP ew eK
    have th := there st
    obtain ⟨q1, q2, ⟨x0, y0, q3⟩, q4, q5⟩ := st
    obtain ⟨xs, ys, x, y, sx, sy, ex, ey⟩ := go
    obtain ⟨us, rx, px, _⟩ := I.list sx
    obtain ⟨vs, ry, py, _⟩ := I.tuple sy
    obtain ⟨u, hu, ru⟩ := rx.get ex
    obtain ⟨v, hv, rv⟩ := ry.get ey
    have zl : z < s.heap.objs.size := Heap.lt_size q1
    have lx : i < us.toArray.size := by rw [List.size_toArray]; exact (List.getElem?_eq_some_iff.mp hu).1
    have ly : i < vs.toArray.size := by rw [List.size_toArray]; exact (List.getElem?_eq_some_iff.mp hv).1
    refine wpAny_pyNext_zipD2_item S (Draws.list (A := X.A.in1) (I.ok.hd calm) i1 a na us.toArray) (Draws.tuple (A := X.A.in1) (I.ok.hd calm) i2 b nb vs.toArray) q1 q2 q3 ⟨q4, px.isList⟩ ⟨q5, py⟩ lx ly fun u' v' h' tk fu fv z' o' l' t' hT _ hk => ?_
    have fu : us.toArray[i]? = some u' := fu
    have fv : vs.toArray[i]? = some v' := fv
    have eu : u' = u := by
      have : us[i]? = some u' := by simpa using fu
      rw [hu] at this
      exact (Option.some.inj this).symm
    have ev : v' = v := by
      have : vs[i]? = some v' := by simpa using fv
      rw [hv] at this
      exact (Option.some.inj this).symm
    subst eu ev
    refine ⟨_, rfl, wpAny_letOwnedTupleGo_zip (s := { s with heap := h', toks := tk }) z' fun h2 z2 sb => ?_⟩
    have up : ∀ c o, c ≠ z → h'.get? c = some o → h2.get? c = some o := fun c o n e => (sb.2 c n).trans e
    have hT2 := up _ _ (Nat.ne_of_gt zl) hT
    have old : ∀ c o, c ∉ [z, TI, TO, i1, i2] → s.heap.get? c = some o → h2.get? c = some o := fun c o n e => by
      have n' : c ≠ z ∧ c ≠ TI ∧ c ≠ TO ∧ c ≠ i1 ∧ c ≠ i2 := by simpa using n
      exact up c o n'.1 (hk c o n'.1 n'.2.2.1 n'.2.2.2.1 n'.2.2.2.2 e)
    have new : ObjOk X.prog X.w (upd H s.heap.objs.size (.tup [x, y])) h2 s.heap.objs.size (.tup [x, y]) := ⟨show 2 ≤ sizeLine by decide, [u', v'], .cons ru (.cons rv .nil), _, hT2, rfl, _, rfl⟩
    refine ⟨.ref s.heap.objs.size, _, I.turnedNew (t' := tk) old fp (Nat.le_refl _) new, rfl, ⟨_, x, y, rfl, I.hok.fresh (Nat.le_refl _), rfl, fun l hl => ?_, fun l hl => by rw [I.tuple_inj hl sy]; exact ey⟩, ⟨z2, up _ _ S.TIz (hk _ _ S.TIz S.TITO S.TIi1 S.TIi2 q2), ⟨u', v', up _ _ S.TOz o'⟩, l'.1.at fun o e => up i1 o (fun z => S.zi1 z.symm) e, t'.1.at fun o e => up i2 o (fun z => S.zi2 z.symm) e⟩, fun c hc => ?_⟩
    · rw [I.list_inj hl sx]; exact ex
    · obtain ⟨o, e, _⟩ := th c hc
      rw [upd_ne (Nat.ne_of_lt (Heap.lt_size e))]
      exact (fp c hc).1
  · intro X eP ew eK calm i pins s σ H E I fp st go
    subst eP ew eK
    obtain ⟨q1, q2, ⟨x0, y0, q3⟩, q4, q5⟩ := st
    obtain ⟨xs, ys, sx, sy, l1, l2, en⟩ := go
    obtain ⟨us, rx, px, _⟩ := I.list sx
    obtain ⟨vs, ry, py, _⟩ := I.tuple sy
    have e1 : us.toArray.size = xs.length := by rw [List.size_toArray]; exact rx.length.symm
    have e2 : vs.toArray.size = ys.length := by rw [List.size_toArray]; exact ry.length.symm
    refine wpAny_pyNext_zipD2_end S (Draws.list (A := X.A.in1) (I.ok.hd calm) i1 a na us.toArray) (Draws.tuple (A := X.A.in1) (I.ok.hd calm) i2 b nb vs.toArray) q1 q2 q3 ⟨q4, px.isList⟩ ⟨q5, py⟩ (by omega) (by omega) (by omega) fun h' tk hk => ⟨rfl, I.turnedL (t' := tk) (ch := [z, TI, TO, i1, i2]) (fun c o n e => ?_) fp⟩
    have n' : c ≠ z ∧ c ≠ TI ∧ c ≠ TO ∧ c ≠ i1 ∧ c ≠ i2 := by simpa using n
    exact hk c o n'.1 n'.2.2.1 n'.2.2.2.1 n'.2.2.2.2 e
def iZipM (K : PySem.W.Frag) (ta : TA) : TI := fun σ H R => ta σ H fun vs H1 => ∃ a b xs ys, vs = [.ref a, .ref b] ∧ SqL K H1 a xs ∧ SqT K H1 b ys ∧ R (ItzM K a b) H1
theorem pi_zipM {X : Cx} {e e2 : Expr} {ta : TA} {p pos tpos : Pos} {elts : List Expr} {kk : Nat} (hg : Gl X "zip") (hm : X.mg "zip" = none) (ha : PA X [e, e2] ta)
    (hs : starEach [e, e2] X.env = (false, eval e X.env) :: starEach [e2] X.env := by rfl) (hpl : (backTo pos (starEach [e2] X.env)).any (·.1) = false := by rfl) :
    PI X (.Tuple elts kk tpos) (.Call (.Name "zip" p) [e, e2] [] pos) (iZipM X.K ta) := by
  refine ⟨fun pins s σ H R I h => Call_ (ld_blt I hg hm PyProof.Rows.boot_zip (PyProof.Rows.callWith_type1 (thn (ha.run pos pins s σ H _ I h) fun us s1 ⟨vs, H1, I1, r1, a, b, xs, ys, ev, sx, sy, q⟩ => ?_) hs hpl))⟩
  subst ev
  obtain ⟨u, v, eu, ru, rv⟩ := vals2 r1
  subst eu
  cases ru
  cases rv
  obtain ⟨is, rx, px, _⟩ := I1.list sx
  obtain ⟨js, ry, py, _⟩ := I1.tuple sy
  have la : a < s1.heap.objs.size := px.lt
  have lb : b < s1.heap.objs.size := let ⟨_, e, _⟩ := py; Heap.lt_size e
  refine zip_begins2 (begins_list a is.toArray) (begins_tuple b js.toArray) px.isList py fun h' z' t' o' g1 g2 _ hk => wpAny_pyIter_zip z' ?_
  refine ⟨s1.heap.objs.size + 4, [s1.heap.objs.size + 4, s1.heap.objs.size + 2, s1.heap.objs.size + 3, s1.heap.objs.size, s1.heap.objs.size + 1], _, _, H1, rfl, I1.kept (t' := s1.toks) hk, turn_zipM (zip_sep2 (fp1 := [a]) (fp2 := [b]) (fun c hc => by rw [List.mem_singleton.mp hc]; exact la) fun c hc => by rw [List.mem_singleton.mp hc]; exact lb) (Nat.ne_of_lt la) (Nat.ne_of_lt (Nat.lt_succ_of_lt lb)), ⟨z', t', ⟨_, _, o'⟩, ⟨_, g1, rfl, rfl⟩, ⟨_, g2, rfl, rfl⟩⟩, fun c hc => ?_, q⟩
  have hle : s1.heap.objs.size ≤ c := by
    have : c = s1.heap.objs.size + 4 ∨ c = s1.heap.objs.size + 2 ∨ c = s1.heap.objs.size + 3 ∨ c = s1.heap.objs.size ∨ c = s1.heap.objs.size + 1 := by simpa using hc
    rcases this with e | e | e | e | e <;> rw [e] <;> first | exact Nat.le_refl _ | exact Nat.le_add_right _ _
  exact I1.fpOk hle (I1.hok.fresh hle)
end RF

set_option Elab.async false
set_option linter.all false
set_option maxRecDepth 100000
set_option maxHeartbeats 8000000
set_option autoImplicit false
namespace RF
open PySem PySem.Spec PyProof.Rows L2
section
variable {X : Cx} {kx vx : Expr} {pos : Pos} {tk tv : TE} {k : Nat}
/-! ### {k: v}, the key a tuple -/
def tDisp1 (tk tv : TE) : TE := fun σ H Q => ∀ p, H p = none → tPairs [(tk, tv)] σ (upd H p (.dT [])) fun ps H2 => H2 p = some (.dT []) ∧ ∃ b ks z, ps = [(V.ref b, z)] ∧ H2 b = some (.tup (ks.map kV)) ∧ Q (.ref p) (upd H2 p (.dT [(ks, z)]))
theorem disp_walk {Q : Value → Shared → Prop} {s : Shared} (hu : X.A.units < cLine) (h : wpAny (model X.prog X.w) X.A (evalPairs (pairTrees [some kx] [vx] X.env pos)) (fun vs s1 => ∃ ps, CarriesH (tupleKind (mixKind X.prog X.w)) s1.heap vs ps ∧ s1.heap.DictOfH (tupleKind (mixKind X.prog X.w)) s.heap.objs.size [] ∧
      ∀ h' tk, h'.DictOfH (tupleKind (mixKind X.prog X.w)) s.heap.objs.size (storedAllH [] ps) → Heap.SameBut s.heap.objs.size s1.heap h' → Q (.ref s.heap.objs.size) { s1 with heap := h', toks := tk }) X.xe { s with heap := s.heap.push { cls := .type "dict", data := .dict #[] } }) :
    wpAny (model X.prog X.w) X.A (eval (.Dict [some kx] [vx] pos) X.env) Q X.xe s := by
  have hshape : (evalEachOpt [some kx] X.env).zip ((evalEach [vx] X.env).map fun v => do let x ← v; standAt pos; pure x) = (pairTrees [some kx] [vx] X.env pos).map fun p => (some p.1, p.2) := rfl
  have hl : (pairTrees [some kx] [vx] X.env pos).length = 1 := rfl
  rw [arm_eval_Dict, hshape, dictDisplay_pairs (pairTrees [some kx] [vx] X.env pos) (fun z => nomatch z) (by rw [hl]; omega)]
  exact wpAny_bind (wpAny_standAt (wpAny_bind (wpAny_subDictH (knd := tupleKind (mixKind X.prog X.w)) (Q := fun d s' => wpAny (model X.prog X.w) X.A (pure (Value.ref d)) Q X.xe s') hu (by rw [hl]; omega)
    (thn h fun vs s1 ⟨ps, c, e, q⟩ => ⟨ps, c, e, fun h' tk a b => wpAny_pure (q h' tk a b)⟩))))
theorem pe_disp1 (hr : Room k X.A) (hk : PE X kx tk) (hv : PE X vx tv) : PE X (.Dict [some kx] [vx] pos) (tDisp1 tk tv) := by
  refine ⟨fun pins s σ H Q I q => ?_⟩
  have hn := I.hok.fresh (Nat.le_refl s.heap.objs.size)
  have I1 := I.laid (a := s.heap.objs.size) (o := .dT []) (h' := s.heap.push { cls := .type "dict", data := .dict #[] }) (t' := s.toks) (fun _ _ q => Heap.get?_push_of_some _ q) (Nat.le_refl _) (dt_empty s.heap I.big)
  refine disp_walk (by have := hr.units; omega) (thn ((pps_cons (pos := pos) hk hv pps_nil).run pins _ σ _ _ I1 (q _ hn)) fun ws s2 ⟨ps, H2, I2, rel, e, b, ks, z, ep, hb, q2⟩ => ?_)
  subst ep
  cases rel with
  | @cons x y xs ys h t =>
    cases t
    obtain ⟨yk, yv⟩ := y
    have h1 : yk = Value.ref b := h.1
    have h2 : RelV z yv := h.2
    subst h1
    obtain ⟨zz, hd, vs0, r0, dd⟩ := dt_of I2.hok e
    cases r0
    refine ⟨[(ks, b, yv)], ⟨rfl, rfl, key_of I2.hok hb, trivial⟩, dd, fun h' tk dd' hs => ?_⟩
    have es : storedAllH [] [(ks, b, yv)] = [(ks, b, yv)] := rfl
    rw [es] at dd'
    obtain ⟨o, ents, ep, g1, g2, g3, g4, _, g5⟩ := dd'
    refine ⟨.ref s.heap.objs.size, _, d_write I2 (by rw [e]; exact True.intro) hs ⟨o, g1⟩ ?_, rfl, q2⟩
    refine ⟨show 1 ≤ sizeLine by decide, hd, [(ks, b, yv)], .cons ⟨rfl, ?_, h2⟩ .nil, o, ents, ep, g1, g2, g3, g4, g5⟩
    rw [upd_ne (ne_of hb e (fun z => nomatch z))]
    exact hb
/-! ### a dict of tuples that begins with a tuple of the module's -/
/-- its keys and where they stand; each is True -/
def ntO (P : Program) (w : World) (a : Addr) (xs : List (List Key × Addr)) : HO := .ext fun h => (a == sysModules) = false ∧ ∃ o es ep, h.get? a = some o ∧ o.ExactDict ∧ o.data = .dict es ep ∧ es.toList = (xs.map fun x => (x.1, x.2, Value.bool true)).map (entryOfKey (tupleKind (mixKind P w))) ∧ (xs.map (·.1)).Nodup
theorem ntO_ok {P : Program} {w : World} {H : Hp} {h : Heap} {a : Addr} {xs : List (List Key × Addr)} (hm : (a == sysModules) = false) {o : Obj} {es : Array DictEntry} {ep : Nat} (g1 : h.get? a = some o) (g2 : o.ExactDict) (g3 : o.data = .dict es ep) (g4 : es.toList = (xs.map fun x => (x.1, x.2, Value.bool true)).map (entryOfKey (tupleKind (mixKind P w)))) (g5 : (xs.map (·.1)).Nodup) : ObjOk P w H h a (ntO P w a xs) :=
  ⟨⟨hm, o, es, ep, g1, g2, g3, g4, g5⟩, ⟨o, g1⟩, fun h1 h2 ⟨m, o, es, ep, e1, r⟩ k => ⟨m, o, es, ep, k o e1, r⟩⟩
def tDispN (P : Program) (w : World) (b : Addr) (ks : List Key) : TE := fun σ H Q => ∀ p, H p = none → Q (.ref p) (upd H p (ntO P w p [(ks, b)]))
theorem is_of {pins : List (Addr × Obj)} {σ : L2.St} {H : Hp} {s : Shared} (I : Inv X pins σ H s) {b : Addr} {ks : List Key} (h : SqT X.K H b (ks.map kV)) : (tupleKind (mixKind X.prog X.w)).is s.heap ks b := by
  obtain ⟨its, r, ⟨o, g1, g2, n, g3⟩, _⟩ := I.tuple h
  exact ⟨o, its.toArray, n, g1, g2, g3, by simpa using items_are r⟩
theorem pe_dispN {b : Addr} {ks : List Key} (hr : Room k X.A) (hk : PE X kx (tC (.ref b))) (hv : PE X vx (tC (.bl true))) (hs : ∀ H, SqT X.K H b (ks.map kV)) : PE X (.Dict [some kx] [vx] pos) (tDispN X.prog X.w b ks) := by
  refine ⟨fun pins s σ H Q I q => ?_⟩
  have hn := I.hok.fresh (Nat.le_refl s.heap.objs.size)
  have hm : (s.heap.objs.size == sysModules) = false := beq_eq_false_iff_ne.mpr (Nat.ne_of_gt I.big)
  have I1 := I.laid (a := s.heap.objs.size) (o := .dT []) (h' := s.heap.push { cls := .type "dict", data := .dict #[] }) (t' := s.toks) (fun _ _ q => Heap.get?_push_of_some _ q) (Nat.le_refl _) (dt_empty s.heap I.big)
  refine disp_walk (by have := hr.units; omega) (thn ((pps_cons (pos := pos) hk hv pps_nil).run pins _ σ _ (fun ps H2 => ps = [(V.ref b, V.bl true)] ∧ H2 = upd H s.heap.objs.size (.dT [])) I1 ⟨rfl, rfl⟩) fun ws s2 ⟨ps, H2, I2, rel, ep, eH⟩ => ?_)
  subst ep eH
  cases rel with
  | @cons x y xs ys h t =>
    cases t
    obtain ⟨yk, yv⟩ := y
    have h1 : yk = Value.ref b := h.1
    have h2 : yv = Value.bool true := h.2
    subst h1 h2
    obtain ⟨zz, hd, vs0, r0, dd⟩ := dt_of I2.hok (upd_same (H := H) (a := s.heap.objs.size) (o := .dT []))
    cases r0
    refine ⟨[(ks, b, Value.bool true)], ⟨rfl, rfl, is_of I2 (hs _), trivial⟩, dd, fun h' tk dd' hs => ?_⟩
    have es : storedAllH [] [(ks, b, Value.bool true)] = [(ks, b, Value.bool true)] := rfl
    rw [es] at dd'
    obtain ⟨o, ents, ep, g1, g2, g3, g4, _, g5⟩ := dd'
    have I3 := d_write I2 (t' := tk) (ob := ntO X.prog X.w s.heap.objs.size [(ks, b)]) (by rw [upd_same]; exact True.intro) hs ⟨o, g1⟩ (ntO_ok (xs := [(ks, b)]) hm g1 g2 g3 g4 g5)
    rw [upd_upd] at I3
    exact ⟨.ref s.heap.objs.size, _, I3, rfl, q _ hn⟩
/-- d[k] = True -/
def sPutN (P : Program) (w : World) (K : PySem.W.Frag) (to ti tv : TE) : TS := fun E σ H => tv σ H fun v H1 => to σ H1 fun x H2 => ti σ H2 fun y H3 => ∃ (a : Addr) (xs : List (List Key × Addr)) (ks : List Key) (b : Addr), x = .ref a ∧ v = .bl true ∧ y = .ref b ∧ H3 a = some (ntO P w a xs) ∧ SqT K H3 b (ks.map kV) ∧ (∀ z ∈ xs, SqT K H3 z.2 (z.1.map kV)) ∧ xs.length ≤ 100000 ∧
  E.nx σ (upd H3 a (ntO P w a (if (xs.any fun x => decide (x.1 = ks)) = true then xs else xs ++ [(ks, b)])))
theorem ps_putN {o i value : Expr} {pos' : Pos} {to ti tv : TE} (hr : Room k X.A) (ho : PE X o to) (hi : PE X i ti) (hv : PE X value tv) (hs : swapsWith value (some (.Subscript o i pos')) pos.line X.env = pure false) :
    PS X (.Assign [.Subscript o i pos'] value pos) (sPutN X.prog X.w X.K to ti tv) := by
  refine ⟨fun pins s σ H D I h => wpAny_Assign_Subscript (thn (hv.run pins s σ H _ I h) fun r s1 ⟨v, H1, I1, rv, q1⟩ => thn (ho.run pins s1 σ H1 _ I1 q1) fun u s2 ⟨x, H2, I2, rx, q2⟩ => thn (hi.run pins s2 σ H2 _ I2 q2) fun iv s3 ⟨y, H3, I3, ry, a, xs, ks, b, ex, ev, ey, ha, hb, his, hl, q3⟩ => ?_) hs⟩
  subst ex ev ey
  obtain rfl : u = Value.ref a := rx
  obtain rfl : r = Value.bool true := rv
  obtain rfl : iv = Value.ref b := ry
  obtain ⟨⟨hm, ob, es, ep, g1, g2, g3, g4, g5⟩, _, _⟩ := (show ObjOk X.prog X.w H3 s3.heap a (ntO X.prog X.w a xs) from I3.hok a _ ha)
  have dd : s3.heap.DictOfH (tupleKind (mixKind X.prog X.w)) a (xs.map fun x => (x.1, x.2, Value.bool true)) := ⟨ob, es, ep, g1, g2, g3, g4, fun x hx => by
    obtain ⟨z, hz, rfl⟩ := List.mem_map.mp hx
    exact is_of I3 (his z hz), by rw [List.map_map]; exact g5⟩
  refine wpAny_setItem_heap (hsz := by rw [List.length_map]; exact Nat.le_trans hl (by decide)) (tupleKind_room_in1 (hu_of hr)) (is_of I3 hb) dd fun h' dd' hs' => ?_
  have est : storedH (xs.map fun x => (x.1, x.2, Value.bool true)) ks b (Value.bool true) = (if (xs.any fun x => decide (x.1 = ks)) = true then xs else xs ++ [(ks, b)]).map fun x => (x.1, x.2, Value.bool true) := by
    by_cases hin : (xs.any fun x => decide (x.1 = ks)) = true
    · rw [if_pos hin]
      obtain ⟨z, hz, ez⟩ := List.any_eq_true.mp hin
      have ez : z.1 = ks := of_decide_eq_true ez
      cases hat : atKey (xs.map fun x => (x.1, x.2, Value.bool true)) ks with
      | none =>
        exfalso
        unfold atKey at hat
        rw [Option.map_eq_none_iff, List.find?_eq_none] at hat
        exact hat _ (List.mem_map.mpr ⟨z, hz, rfl⟩) (decide_eq_true ez)
      | some q =>
        rw [storedH_old hat]
        have pt : ∀ x : List Key × Addr, putAt ks (Value.bool true) (x.1, x.2, Value.bool true) = (x.1, x.2, Value.bool true) := fun x => by unfold putAt; split <;> rfl
        rw [List.map_map]
        exact List.map_congr_left fun x _ => pt x
    · rw [if_neg hin, List.map_append]
      refine storedH_new ?_ b _
      cases hat : atKey (xs.map fun x => (x.1, x.2, Value.bool true)) ks with
      | none => rfl
      | some q =>
        exfalso
        unfold atKey at hat
        obtain ⟨y, hy, e⟩ := Option.map_eq_some_iff.mp hat
        have h1 := List.find?_some hy
        have h2 := List.mem_of_find?_eq_some hy
        obtain ⟨z, hz, e2⟩ := List.mem_map.mp h2
        refine hin (List.any_eq_true.mpr ⟨z, hz, decide_eq_true ?_⟩)
        have : y.1 = ks := of_decide_eq_true h1
        rw [← e2] at this
        exact this
  rw [est] at dd'
  obtain ⟨o2, es2, ep2, f1, f2, f3, f4, _, f5⟩ := dd'
  exact ⟨σ, _, d_write I3 (ob := ntO X.prog X.w a (if (xs.any fun x => decide (x.1 = ks)) = true then xs else xs ++ [(ks, b)])) (by rw [ha]; exact True.intro) hs' ⟨o2, f1⟩ (ntO_ok hm f1 f2 f3 f4 (by rw [List.map_map] at f5; exact f5)), q3⟩
/-- list(d) -/
def rListN (P : Program) (w : World) : List V → Hp → VK → Prop := fun vs H Q => ∃ (a : Addr) (xs : List (List Key × Addr)), vs = [V.ref a] ∧ H a = some (ntO P w a xs) ∧ xs.length ≤ 100000 ∧ ∀ p, H p = none → Q (.ref p) (upd H p (.lst (xs.map fun x => V.ref x.2)))
theorem call_listN (hc : X.calm = true) : CallR X (.type "list") (rListN X.prog X.w) := by
  intro pins s σ H vs us Q I r h
  obtain ⟨a, xs, rfl, ha, hl, q⟩ := h
  obtain ⟨u, rfl, rx⟩ := r.one
  cases rx
  obtain ⟨⟨hm, ob, es, ep, g1, g2, g3, g4, g5⟩, _, _⟩ := (show ObjOk X.prog X.w H s.heap a (ntO X.prog X.w a xs) from I.hok a _ ha)
  have l1 : es.size = xs.length := by
    have := size_of_entries g4
    rw [List.length_map] at this
    exact this
  refine PySem.W.kdl_call (kdl_raw hm g2 g3) (I.ok.hd hc) g1 (by rw [l1]; exact Nat.le_trans hl (by decide)) fun h' tk acc c kp e it => ?_
  have ea : acc.toList = xs.map fun x => Value.ref x.2 := by
    refine List.ext_getElem? fun j => ?_
    have hsz : acc.toList.length = xs.length := by rw [Array.length_toList, it.1]; exact l1
    by_cases hj : j < xs.length
    · have hja : acc.toList[j]? = some (acc.toList[j]'(by omega)) := List.getElem?_eq_getElem (by omega)
      obtain ⟨en, hen, hv⟩ := it.2 j _ (by rw [← Array.getElem?_toList]; exact hja)
      have qe := entry_at g4 j
      have hxj : xs[j]? = some xs[j] := List.getElem?_eq_getElem hj
      rw [hen, List.getElem?_map, hxj] at qe
      have e2 := Option.some.inj qe
      rw [hja, List.getElem?_map, hxj, hv, e2]
      rfl
    · rw [List.getElem?_eq_none (by omega), List.getElem?_eq_none (by rw [List.length_map]; omega)]
  have rv : Vals (xs.map fun x => V.ref x.2) acc.toList := by
    have z := vals_refs (xs.map (·.2))
    rw [List.map_map, List.map_map] at z
    rw [ea]
    exact z
  exact ⟨.ref s.heap.objs.size, _, I.laid (t' := tk) (o := .lst (xs.map fun x => V.ref x.2)) kp (Nat.le_refl _) ⟨by rw [List.length_map]; exact Nat.le_trans hl (by decide), acc.toList, c, rv, by rw [Array.toArray_toList]; exact e⟩, rfl, q _ (I.hok.fresh (Nat.le_refl _))⟩
end
end RF

set_option Elab.async false
set_option linter.all false
set_option maxRecDepth 100000
set_option maxHeartbeats 4000000
set_option autoImplicit false
namespace RF
open PySem L2

/-! ### one reading for a construct, whatever the kinds -/
def eOr (t u : TE) : TE := fun σ H Q => t σ H Q ∨ u σ H Q
def rOr (r q : R2) : R2 := fun x y H Q => r x y H Q ∨ q x y H Q
def cOr (r q : List V → Hp → VK → Prop) : List V → Hp → VK → Prop := fun xs H Q => r xs H Q ∨ q xs H Q
def iOr (r q : TI) : TI := fun σ H R => r σ H R ∨ q σ H R
def slOr (r q : V → Option Int → Option Int → Hp → VK → Prop) : V → Option Int → Option Int → Hp → VK → Prop := fun x l u H Q => r x l u H Q ∨ q x l u H Q
abbrev rAddI : R2 := rI0 fun i j => .int (i + j)
abbrev rSubI : R2 := rI0 fun i j => .int (i - j)
abbrev rMulI : R2 := rI CMulW fun i j => .int (i * j)
abbrev rDivI : R2 := rI CDivW fun i j => .int (i / j)
abbrev rModI : R2 := rI (fun _ j => 0 < j) fun i j => .int (i % j)
abbrev rPowI : R2 := rI CPow fun i j => .int (i ^ j.toNat)
abbrev rLtI : R2 := rI0 fun i j => .bl (decide (i < j))
abbrev rLeI : R2 := rI0 fun i j => .bl (decide (i ≤ j))
abbrev rGtI : R2 := rI0 fun i j => .bl (decide (j < i))
abbrev rGeI : R2 := rI0 fun i j => .bl (decide (j ≤ i))
def rAddS : R2 := fun x y H Q => ∃ i j, x = .str i ∧ y = .str j ∧ i.length + j.length ≤ sizeLine ∧ Q (.str (i ++ j)) H
def rLtS : R2 := fun x y H Q => ∃ i j, x = .str i ∧ y = .str j ∧ Q (.bl (decide (i.cps.toList < j.cps.toList))) H
def rLtU (_ : PySem.W.Frag) : R2 := rOr rLtI rLtS
def rIsN : R2 := fun x y H Q => y = .non ∧ Q (.bl (decide (x = .non))) H
def rNotN : R2 := fun x y H Q => y = .non ∧ Q (.bl (!decide (x = .non))) H
def rAddU (K : PySem.W.Frag) : R2 := rOr rAddI (rOr (rCatA K) (rOr (rCatF K) (rOr rAddS (rCatL K))))
def tTupU (t : TA) : TE := eOr (tTup t) (tTupF t)
def rEqU (K : PySem.W.Frag) : R2 := rOr rEq (rEqD K)
def rNeU (K : PySem.W.Frag) : R2 := rOr rNe (rNeD K)
def rIxU (K : PySem.W.Frag) (ta tb : TE) : TE := eOr (tOp (rIxT K) ta tb) (eOr (tOp (rIxL K) ta tb) (tDGet ta tb))
def rInU (K : PySem.W.Frag) (ta tb : TE) : TE := eOr (tOp (rIn K false) ta tb) (tDIn ta tb)
def rNotInU (K : PySem.W.Frag) (ta tb : TE) : TE := eOr (tOp (rIn K true) ta tb) (tDNotIn ta tb)
def ttOr (t u : TT) : TT := fun σ H Q => t σ H Q ∨ u σ H Q
def tInT (K : PySem.W.Frag) (ta tb : TE) : TT := ttOr (tTest (tOp (rIn K false) ta tb)) (tB (tDIn ta tb))
def tNotInT (K : PySem.W.Frag) (ta tb : TE) : TT := ttOr (tTest (tOp (rIn K true) ta tb)) (tB (tDNotIn ta tb))
def rLenSeq (K : PySem.W.Frag) : List V → Hp → VK → Prop := fun xs H Q => ∃ p ys, xs = [.ref p] ∧ (SqL K H p ys ∨ SqT K H p ys) ∧ Q (.int ys.length) H
def rLenStr : List V → Hp → VK → Prop := fun xs H Q => ∃ z, xs = [.str z] ∧ z.length ≤ sizeLine ∧ Q (.int z.length) H
def rLenU (K : PySem.W.Frag) : List V → Hp → VK → Prop := cOr (rLenSeq K) (cOr rLenStr rLenDD)
def rAbs : List V → Hp → VK → Prop := fun xs H Q => ∃ i, xs = [.int i] ∧ Q (.int (if i < 0 then -i else i)) H
def rMin2 : List V → Hp → VK → Prop := fun xs H Q => ∃ i j, xs = [.int i, .int j] ∧ Q (.int (if j < i then j else i)) H
def rMax2 : List V → Hp → VK → Prop := fun xs H Q => ∃ i j, xs = [.int i, .int j] ∧ Q (.int (if j > i then j else i)) H
def rTupO (K : PySem.W.Frag) : List V → Hp → VK → Prop := fun xs H Q => ∃ p ys, xs = [.ref p] ∧ ((SqL K H p ys ∧ ∀ l, H l = none → Q (.ref l) (upd H l (.tup ys))) ∨ (SqT K H p ys ∧ Q (.ref p) H))
def rTupU (K : PySem.W.Frag) : List V → Hp → VK → Prop := cOr (rTupO K) (rTupF K)
def rListSq (K : PySem.W.Frag) : List V → Hp → VK → Prop := fun xs H Q => ∃ p ys, xs = [.ref p] ∧ (SqL K H p ys ∨ SqT K H p ys) ∧ ∀ l, H l = none → Q (.ref l) (upd H l (.lst ys))
def rSortedD : List V → Hp → VK → Prop := fun xs H Q => ∃ (a : Addr) (kvs : List (Key × V)) (ks : List Str), xs = [.ref a] ∧ Rd H a (.dK kvs) ∧ kvs.map (·.1) = ks.map Sum.inr ∧ ks.length < 64 ∧ ∀ (ys : List Str) (p : Addr), ys.Perm ks → PyProof.Rows.sortedS ys = true → H p = none → Q (.ref p) (upd H p (.lst (ys.map V.str)))
def rSortedU (K : PySem.W.Frag) : List V → Hp → VK → Prop := cOr (rSortedS K) rSortedD
def rInt1 : List V → Hp → VK → Prop := fun xs H Q => (∃ i, xs = [.int i] ∧ Q (.int i) H) ∨ ∃ k, xs = [.bl k] ∧ Q (.int (if k then 1 else 0)) H
def iSeq (K : PySem.W.Frag) (te : TE) : TI := iOr (iTup K te) (iOr (iList K te) (iStr te))
def slU (K : PySem.W.Frag) : V → Option Int → Option Int → Hp → VK → Prop := slOr (rSlA K) (slOr (rSlL K) (rSlF K))
section
variable {X : Cx} {a b : Expr} {ta tb : TE} {pos : Pos}
theorem por {e : Expr} {t u : TE} (h : PE X e t) (k : PE X e u) : PE X e (eOr t u) := ⟨fun pins s σ H Q I z => z.elim (h.run pins s σ H Q I) (k.run pins s σ H Q I)⟩
theorem pior {tg e : Expr} {t u : TI} (h : PI X tg e t) (k : PI X tg e u) : PI X tg e (iOr t u) := ⟨fun pins s σ H R I z => z.elim (h.run pins s σ H R I) (k.run pins s σ H R I)⟩
theorem slor {r q : V → Option Int → Option Int → Hp → VK → Prop} (h : SlR X r) (k : SlR X q) : SlR X (slOr r q) := fun pins s σ H x v vl vu lo hi sl Q I rx hs pl pu z =>
  z.elim (h pins s σ H x v vl vu lo hi sl Q I rx hs pl pu) (k pins s σ H x v vl vu lo hi sl Q I rx hs pl pu)
theorem opr_or {f : Value → Value → Sem Value} {r q : R2} (h : OpR X f r) (k : OpR X f q) : OpR X f (rOr r q) := OpR.or h k
theorem cr_or {f : Value} {r q : List V → Hp → VK → Prop} (h : CallR X f r) (k : CallR X f q) : CallR X f (cOr r q) := CallR.or h k
theorem ou_add : OpR X (binaryOp .Add) (rAddU X.K) := opr_or op_add (opr_or op_catA (opr_or op_catF (opr_or op_add_str op_catL)))
theorem ou_lt {k : Nat} (_ : Room k X.A) : OpR X (compareOp .Lt) (rLtU X.K) := opr_or op_lt op_lt_str
theorem ou_eq {k : Nat} (hr : Room k X.A) : OpR X (compareOp .Eq) (rEqU X.K) := opr_or op_eq (op_eqD hr.units)
theorem ou_ne {k : Nat} (hr : Room k X.A) : OpR X (compareOp .NotEq) (rNeU X.K) := opr_or op_ne (op_neD hr.units)
theorem pu_ix {k : Nat} (hr : Room k X.A) (ha : PE X a ta) (hb : PE X b tb) (hs : PlainIx b) : PE X (.Subscript a b pos) (rIxU X.K ta tb) := por (pe_ix ix_tup ha hb hs) (por (pe_ix ix_list ha hb hs) (pe_dget (hu_of hr) ha hb hs))
theorem pu_in {k : Nat} (hr : Room k X.A) (ha : PE X a ta) (hb : PE X b tb) (hm : behindInMarks .In b = false) : PE X (.Compare a [.In] [b] pos) (rInU X.K ta tb) := por (pe_cmpR op_in_seq ha hb hm) (pe_cmp (pc_din (hu_of hr) ha hb) hm)
theorem pu_notin {k : Nat} (hr : Room k X.A) (ha : PE X a ta) (hb : PE X b tb) (hm : behindInMarks .NotIn b = false) : PE X (.Compare a [.NotIn] [b] pos) (rNotInU X.K ta tb) := por (pe_cmpR op_notIn_seq ha hb hm) (pe_cmp (pc_dnotin (hu_of hr) ha hb) hm)
theorem ptor {e : Expr} {t u : TT} (h : PT X e t) (k : PT X e u) : PT X e (ttOr t u) := ⟨fun pins s σ H Q I z => z.elim (h.run pins s σ H Q I) (k.run pins s σ H Q I)⟩
theorem pu_inT {k : Nat} (hr : Room k X.A) (ha : PE X a ta) (hb : PE X b tb) (hm : behindInMarks .In b = false) : PT X (.Compare a [.In] [b] pos) (tInT X.K ta tb) := ptor (pt_cmpR op_in_seq ha hb hm) (pt_cmp (pc_din (hu_of hr) ha hb) hm)
theorem pu_notinT {k : Nat} (hr : Room k X.A) (ha : PE X a ta) (hb : PE X b tb) (hm : behindInMarks .NotIn b = false) : PT X (.Compare a [.NotIn] [b] pos) (tNotInT X.K ta tb) := ptor (pt_cmpR op_notIn_seq ha hb hm) (pt_cmp (pc_dnotin (hu_of hr) ha hb) hm)
theorem pu_tup {es : List Expr} {t : TA} {x1 : Nat} (h : PA X es t) : PE X (.Tuple es x1 pos) (tTupU t) := por (pe_tup h) (pe_tupF h)
theorem cu_len : CallR X (.builtin "len") (rLenU X.K) := cr_or call_len_seq (cr_or call_len_str call_lenDD)
theorem cu_tup : CallR X (.type "tuple") (rTupU X.K) := cr_or call_tuple_of cu_tupF
theorem cu_sorted (hc : X.calm = true) : CallR X (.builtin "sorted") (rSortedU X.K) := cr_or cr_sortedS (call_sortedD hc)
theorem pu_seq {tg e : Expr} {te : TE} (h : PE X e te) : PI X tg e (iSeq X.K te) := pior (pi_tup h) (pior (pi_list h) (pi_str h))
theorem su_any : SlR X (slU X.K) := slor sl_tupA (slor sl_list sl_tupF)
end
/-! ### the same over data -/
section
variable {K : PySem.W.Frag} {lk : Bool} {ρ : List Sl} {ta tb te : TE} {tt tu : TT} {A B P : D → Prop} {x y z d : D} {r q : R2} {t u : TE}
theorem ev_l (h : EvS K lk t ρ P) : EvS K lk (eOr t u) ρ P := fun w0 w σ s Q g => .inl (h w0 w σ s Q g)
theorem ev_r (h : EvS K lk u ρ P) : EvS K lk (eOr t u) ρ P := fun w0 w σ s Q g => .inr (h w0 w σ s Q g)
theorem rvl (h : RvS K lk r x y P) : RvS K lk (rOr r q) x y P := fun w v u ok l r1 r2 Q g => .inl (h w v u ok l r1 r2 Q g)
theorem rvr (h : RvS K lk q x y P) : RvS K lk (rOr r q) x y P := fun w v u ok l r1 r2 Q g => .inr (h w v u ok l r1 r2 Q g)
theorem rcl {f g : List V → Hp → VK → Prop} {as : List Ar} (h : RcS K lk f as P) : RcS K lk (cOr f g) as P := fun w vs ok l r Q k => .inl (h w vs ok l r Q k)
theorem rcr {f g : List V → Hp → VK → Prop} {as : List Ar} (h : RcS K lk g as P) : RcS K lk (cOr f g) as P := fun w vs ok l r Q k => .inr (h w vs ok l r Q k)
theorem itl {a b : TI} {X : List D → Prop} (h : ItS K lk a ρ X) : ItS K lk (iOr a b) ρ X := fun w0 w σ s R k => .inl (h w0 w σ s R k)
theorem itr {a b : TI} {X : List D → Prop} (h : ItS K lk b ρ X) : ItS K lk (iOr a b) ρ X := fun w0 w σ s R k => .inr (h w0 w σ s R k)
theorem is_tup {xs : List D} (h : EvD K lk te ρ (.tup xs)) : ItS K lk (iSeq K te) ρ (fun ys => ys = xs) := itl (it_tup h)
theorem is_lst {xs : List D} (h : EvD K lk te ρ (.lst xs)) : ItS K lk (iSeq K te) ρ (fun ys => ys = xs) := itr (itl (it_list h))
section
variable {i j : Int}
theorem eu_add (ha : EvD K lk ta ρ (.int i)) (hb : EvD K lk tb ρ (.int j)) : EvD K lk (tOp (rAddU K) ta tb) ρ (.int (i + j)) := ev_op2 ha hb (rvl (rv_I0 fun _ => rfl))
theorem eu_lt (ha : EvD K lk ta ρ (.int i)) (hb : EvD K lk tb ρ (.int j)) : EvD K lk (tOp (rLtU K) ta tb) ρ (.bl (decide (i < j))) := ev_op2 ha hb (rvl (rv_I0 fun _ => rfl))
theorem eu_ltS {i j : Str} (ha : EvD K lk ta ρ (.str i)) (hb : EvD K lk tb ρ (.str j)) : EvD K lk (tOp (rLtU K) ta tb) ρ (.bl (decide (i.cps.toList < j.cps.toList))) := ev_op2 ha hb (rvr fun w v u ok _ r1 r2 Q g => ⟨i, j, r1, r2, g.here (d := .bl _) ok rfl rfl⟩)
theorem eu_isN (ha : EvD K lk ta ρ x) (hb : EvD K lk tb ρ .non) (b : Bool) (h : ∀ I v, Rp K I x v → decide (v = .non) = b) : EvD K lk (tOp rIsN ta tb) ρ (.bl b) := ev_op2 ha hb fun w v u ok _ r1 r2 Q g => ⟨r2, by rw [h _ _ r1]; exact g.here (d := .bl b) ok rfl rfl⟩
theorem eu_notN (ha : EvD K lk ta ρ x) (hb : EvD K lk tb ρ .non) (b : Bool) (h : ∀ I v, Rp K I x v → decide (v = .non) = b) : EvD K lk (tOp rNotN ta tb) ρ (.bl (!b)) := ev_op2 ha hb fun w v u ok _ r1 r2 Q g => ⟨r2, by rw [h _ _ r1]; exact g.here (d := .bl (!b)) ok rfl rfl⟩
end
/-- t + u, tuples -/
theorem eu_cat {xs ys : List D} (ha : EvD K lk ta ρ (.tup xs)) (hb : EvD K lk tb ρ (.tup ys)) (hl : xs.length + ys.length ≤ 100000) : EvD K lk (tOp (rAddU K) ta tb) ρ (.tup (xs ++ ys)) := ev_op2 ha hb (rvr (rvl fun w v u ok _ r1 r2 Q g => by
  obtain ⟨a, vs, e1, s1, p1⟩ := r1
  obtain ⟨b, us, e2, s2, p2⟩ := r2
  refine ⟨a, b, vs, us, e1, e2, sqTH ok s1, sqTH ok s2, by rw [p1.length, p2.length]; exact Nat.le_trans hl (by decide), fun z => ?_, fun _ z => ?_, fun _ _ c hc => ?_⟩
  · subst z
    have e : xs = [] := List.length_eq_zero_iff.mp p1.length.symm
    subst e
    exact g.here (d := .tup ys) ok ⟨b, us, rfl, s2, p2⟩ rfl
  · subst z
    have e : ys = [] := List.length_eq_zero_iff.mp p2.length.symm
    subst e
    rw [List.append_nil] at g
    exact g.here (d := .tup xs) ok ⟨a, vs, rfl, s1, p1⟩ rfl
  · exact g.new (d := .tup (xs ++ ys)) ok hc True.intro ⟨c, _, rfl, .inl (.inl upd_same), (p1.append p2).mono (same_new (notI ok hc))⟩ rfl))
/-! ### == of data -/
mutual
def py : D → PyData
  | .non => .none
  | .bl b => .bool b
  | .int i => .int i
  | .str s => .str s
  | .lst xs => .list (pyL xs)
  | .tup xs => .tuple (pyL xs)
  | .tk ks => .tuple (ks.map fun k => match k with | .inl i => PyData.int i | .inr s => PyData.str s)
  | .tf ss => .tuple (ss.map PyData.str)
  | .mref _ => .none
  | .li ns => .list (ns.map PyData.int)
  | .dk _ => .dict []
  | .dt _ => .dict []
  | .fk _ => .dict []
  | .ft _ => .dict []
def pyL : List D → List PyData
  | [] => []
  | d :: ds => py d :: pyL ds
end
/-- no dict within, not deep -/
def Plain : Nat → D → Prop
  | _, .non => True
  | _, .bl _ => True
  | _, .int _ => True
  | _, .str s => PyData.strOk s = true
  | n + 1, .lst xs => ∀ x ∈ xs, Plain n x
  | n + 1, .tup xs => ∀ x ∈ xs, Plain n x
  | _, _ => False
theorem plainL {n : Nat} (ih : ∀ d, Plain n d → (py d).canLay0 = true ∧ (py d).depth ≤ n) : ∀ xs : List D, (∀ x ∈ xs, Plain n x) → PyData.canLayAll0 (pyL xs) = true ∧ PyData.depthAll (pyL xs) ≤ n
  | [], _ => ⟨rfl, Nat.zero_le _⟩
  | d :: ds, h => by
    obtain ⟨a1, a2⟩ := ih d (h d (by simp))
    obtain ⟨b1, b2⟩ := plainL ih ds fun x hx => h x (by simp [hx])
    refine ⟨?_, ?_⟩
    · simp only [pyL, PyData.canLayAll0, a1, b1, Bool.and_self]
    · simp only [pyL, PyData.depthAll]
      omega
theorem plain_lay : ∀ (n : Nat) (d : D), Plain n d → (py d).canLay0 = true ∧ (py d).depth ≤ n
  | n, .non, h => ⟨rfl, Nat.zero_le _⟩
  | n, .bl _, h => ⟨rfl, Nat.zero_le _⟩
  | n, .int _, h => ⟨rfl, Nat.zero_le _⟩
  | n, .str s, h => by
    have h : PyData.strOk s = true := by cases n <;> exact h
    exact ⟨by simp only [py, PyData.canLay0]; exact h, Nat.zero_le _⟩
  | 0, .lst xs, h => h.elim
  | 0, .tup xs, h => h.elim
  | 0, .tk xs, h => h.elim
  | n + 1, .tk xs, h => h.elim
  | 0, .tf xs, h => h.elim
  | n + 1, .tf xs, h => h.elim
  | 0, .mref _, h => h.elim
  | n + 1, .mref _, h => h.elim
  | 0, .li xs, h => h.elim
  | n + 1, .li xs, h => h.elim
  | 0, .dk xs, h => h.elim
  | 0, .dt xs, h => h.elim
  | n + 1, .dk xs, h => h.elim
  | n + 1, .dt xs, h => h.elim
  | 0, .fk xs, h => h.elim
  | 0, .ft xs, h => h.elim
  | n + 1, .fk xs, h => h.elim
  | n + 1, .ft xs, h => h.elim
  | n + 1, .lst xs, h => by
    obtain ⟨a, b⟩ := plainL (fun d hd => plain_lay n d hd) xs h
    exact ⟨by simp only [py, PyData.canLay0]; exact a, by simp only [py, PyData.depth]; omega⟩
  | n + 1, .tup xs, h => by
    obtain ⟨a, b⟩ := plainL (fun d hd => plain_lay n d hd) xs h
    exact ⟨by simp only [py, PyData.canLay0]; exact a, by simp only [py, PyData.depth]; omega⟩
theorem plain_shaped {n : Nat} {d : D} (h : Plain n d) (hn : n ≤ 64) : SeqAt.shaped (py d) = true := by
  obtain ⟨a, b⟩ := plain_lay n d h
  unfold SeqAt.shaped
  rw [a, decide_eq_true (Nat.le_trans b hn)]
  rfl
mutual
theorem dp_of {I : Hp} : ∀ {n : Nat} {d : D} {v : V}, Plain n d → Rp K I d v → Dp K I v (py d)
  | _, .non, _, _, r => by rw [show _ = V.non from r]; exact .non
  | _, .bl b, _, _, r => by rw [show _ = V.bl b from r]; exact .bl b
  | _, .int b, _, _, r => by rw [show _ = V.int b from r]; exact .int b
  | _, .str b, _, _, r => by rw [show _ = V.str b from r]; exact .str b
  | 0, .lst xs, _, h, _ => h.elim
  | 0, .tup xs, _, h, _ => h.elim
  | 0, .tk xs, _, h, _ => h.elim
  | n + 1, .tk xs, _, h, _ => h.elim
  | 0, .tf xs, _, h, _ => h.elim
  | n + 1, .tf xs, _, h, _ => h.elim
  | 0, .mref _, _, h, _ => h.elim
  | n + 1, .mref _, _, h, _ => h.elim
  | 0, .li xs, _, h, _ => h.elim
  | n + 1, .li xs, _, h, _ => h.elim
  | 0, .dk xs, _, h, _ => h.elim
  | 0, .dt xs, _, h, _ => h.elim
  | n + 1, .dk xs, _, h, _ => h.elim
  | n + 1, .dt xs, _, h, _ => h.elim
  | 0, .fk xs, _, h, _ => h.elim
  | 0, .ft xs, _, h, _ => h.elim
  | n + 1, .fk xs, _, h, _ => h.elim
  | n + 1, .ft xs, _, h, _ => h.elim
  | n + 1, .lst xs, _, h, ⟨a, vs, e, s, r⟩ => by rw [e]; exact .lst s (dpL_of (n := n) h r)
  | n + 1, .tup xs, _, h, ⟨a, vs, e, s, r⟩ => by rw [e]; exact .tup s (dpL_of (n := n) h r)
theorem dpL_of {I : Hp} : ∀ {n : Nat} {ds : List D} {vs : List V}, (∀ x ∈ ds, Plain n x) → RpL K I ds vs → DpAll K I vs (pyL ds)
  | _, [], _, _, r => by rw [show _ = [] from r]; exact .nil
  | n, d :: ds, _, h, ⟨v, s, e, r, q⟩ => by rw [e]; exact .cons (dp_of (n := n) (h d (by simp)) r) (dpL_of (n := n) (fun x hx => h x (by simp [hx])) q)
end
def eqD (d e : D) : Bool := PyData.eqv (py d) (py e)
theorem Dp.toH {w : Wd} (ok : w.Ok) {n : Nat} {v : V} (h : Plain n d) (r : Rp K w.I d v) : Dp K w.H v (py d) := dp_of h (r.mono ok.sub)
theorem eu_eqD (n : Nat) (ha : EvD K lk ta ρ x) (hb : EvD K lk tb ρ y) (h1 : Plain n x) (h2 : Plain n y) (hn : n ≤ 64 := by decide) : EvD K lk (tOp (rEqU K) ta tb) ρ (.bl (eqD x y)) := ev_op2 ha hb (rvr fun w v u ok _ r1 r2 Q g =>
  ⟨py x, py y, Dp.toH ok h1 r1, Dp.toH ok h2 r2, plain_shaped h1 hn, plain_shaped h2 hn, g.here (d := .bl (eqD x y)) ok rfl rfl⟩)
theorem eu_neD (n : Nat) (ha : EvD K lk ta ρ x) (hb : EvD K lk tb ρ y) (h1 : Plain n x) (h2 : Plain n y) (hn : n ≤ 64 := by decide) : EvD K lk (tOp (rNeU K) ta tb) ρ (.bl (!eqD x y)) := ev_op2 ha hb (rvr fun w v u ok _ r1 r2 Q g =>
  ⟨py x, py y, Dp.toH ok h1 r1, Dp.toH ok h2 r2, plain_shaped h1 hn, plain_shaped h2 hn, g.here (d := .bl (!eqD x y)) ok rfl rfl⟩)
theorem eu_eq (ha : EvD K lk ta ρ x) (hb : EvD K lk tb ρ y) (h : flatD x y = true) : EvD K lk (tOp (rEqU K) ta tb) ρ (.bl (eqF x y)) := ev_op2 ha hb (rvl fun w v u ok _ r1 r2 Q q => by
  obtain ⟨s1, s2⟩ := scal_of h r1 r2
  exact ⟨s1, by rw [s2]; exact q.here (d := .bl _) ok rfl rfl⟩)
theorem eu_ne (ha : EvD K lk ta ρ x) (hb : EvD K lk tb ρ y) (h : flatD x y = true) : EvD K lk (tOp (rNeU K) ta tb) ρ (.bl (!eqF x y)) := ev_op2 ha hb (rvl fun w v u ok _ r1 r2 Q q => by
  obtain ⟨s1, s2⟩ := scal_of h r1 r2
  exact ⟨s1, by rw [s2]; exact q.here (d := .bl _) ok rfl rfl⟩)
theorem eu_eqI {i j : Int} (ha : EvD K lk ta ρ (.int i)) (hb : EvD K lk tb ρ (.int j)) : EvD K lk (tOp (rEqU K) ta tb) ρ (.bl (decide (i = j))) := eu_eq ha hb rfl
theorem eu_neI {i j : Int} (ha : EvD K lk ta ρ (.int i)) (hb : EvD K lk tb ρ (.int j)) : EvD K lk (tOp (rNeU K) ta tb) ρ (.bl (!decide (i = j))) := eu_ne ha hb rfl
theorem eu_eqS {i j : Str} (ha : EvD K lk ta ρ (.str i)) (hb : EvD K lk tb ρ (.str j)) : EvD K lk (tOp (rEqU K) ta tb) ρ (.bl (decide (i = j))) := eu_eq ha hb rfl
theorem eu_neS {i j : Str} (ha : EvD K lk ta ρ (.str i)) (hb : EvD K lk tb ρ (.str j)) : EvD K lk (tOp (rNeU K) ta tb) ρ (.bl (!decide (i = j))) := eu_ne ha hb rfl
theorem eu_eqB {i j : Bool} (ha : EvD K lk ta ρ (.bl i)) (hb : EvD K lk tb ρ (.bl j)) : EvD K lk (tOp (rEqU K) ta tb) ρ (.bl (decide (i = j))) := eu_eq ha hb rfl
theorem eu_neB {i j : Bool} (ha : EvD K lk ta ρ (.bl i)) (hb : EvD K lk tb ρ (.bl j)) : EvD K lk (tOp (rNeU K) ta tb) ρ (.bl (!decide (i = j))) := eu_ne ha hb rfl
/-! ### subscripts, in -/
theorem eu_ixT {ds : List D} {i : Int} (ha : EvD K lk ta ρ (.tup ds)) (hb : EvD K lk tb ρ (.int i)) (h : atI ds i = some d) : EvD K lk (rIxU K ta tb) ρ d := ev_l (ev_ixT ha hb h)
theorem eu_ixL {ds : List D} {i : Int} (ha : EvD K lk ta ρ (.lst ds)) (hb : EvD K lk tb ρ (.int i)) (h : atI ds i = some d) : EvD K lk (rIxU K ta tb) ρ d := ev_r (ev_l (ev_ixL ha hb h))
theorem inV_strs (s : Str) (xs : List Str) : inV (.str s) (xs.map V.str) = decide (s ∈ xs) := by
  unfold inV
  rw [List.any_map]
  induction xs with
  | nil => simp
  | cons a r ih =>
    rw [List.any_cons, ih]
    show (eqV (V.str a) (V.str s) || _) = _
    by_cases e : a = s
    · subst e; simp [eqV]
    · have : ¬ s = a := fun z => e z.symm
      simp [eqV, e, this]
theorem flat_strs (xs : List Str) : (xs.map V.str).all flatV = true := by
  rw [List.all_map, List.all_eq_true]
  intro x _
  rfl
theorem et_l {t u : TT} {T : Bool → Prop} (h : EvT K lk t ρ T) : EvT K lk (ttOr t u) ρ T := fun w0 w σ s Q g => .inl (h w0 w σ s Q g)
theorem et_r {t u : TT} {T : Bool → Prop} (h : EvT K lk u ρ T) : EvT K lk (ttOr t u) ρ T := fun w0 w σ s Q g => .inr (h w0 w σ s Q g)
theorem ev_inS (neg : Bool) {s : Str} {xs : List Str} (ha : EvD K lk ta ρ (.str s)) (hb : EvD K lk tb ρ (.lst (xs.map D.str))) : EvD K lk (tOp (rIn K neg) ta tb) ρ (.bl (if neg then !decide (s ∈ xs) else decide (s ∈ xs))) := ev_op2 ha hb fun w v u ok _ r1 r2 Q g => by
  obtain ⟨a, vs, e, sq, r⟩ := r2
  have ev : vs = xs.map V.str := r.strs
  subst ev
  have e1 : v = .str s := r1
  subst e1
  refine ⟨a, _, e, .inl (sqLH ok sq), rfl, flat_strs xs, ?_⟩
  rw [inV_strs]
  exact g.here (d := .bl _) ok rfl rfl
theorem eu_inS {s : Str} {xs : List Str} (ha : EvD K lk ta ρ (.str s)) (hb : EvD K lk tb ρ (.lst (xs.map D.str))) : EvD K lk (rInU K ta tb) ρ (.bl (decide (s ∈ xs))) := ev_l (ev_inS false ha hb)
theorem eu_notinS {s : Str} {xs : List Str} (ha : EvD K lk ta ρ (.str s)) (hb : EvD K lk tb ρ (.lst (xs.map D.str))) : EvD K lk (rNotInU K ta tb) ρ (.bl (!decide (s ∈ xs))) := ev_l (ev_inS true ha hb)
theorem et_inS {s : Str} {xs : List Str} (ha : EvD K lk ta ρ (.str s)) (hb : EvD K lk tb ρ (.lst (xs.map D.str))) : EvB K lk (tInT K ta tb) ρ (decide (s ∈ xs)) := et_l (et_test (ev_inS false ha hb))
theorem et_notinS {s : Str} {xs : List Str} (ha : EvD K lk ta ρ (.str s)) (hb : EvD K lk tb ρ (.lst (xs.map D.str))) : EvB K lk (tNotInT K ta tb) ρ (!decide (s ∈ xs)) := et_l (et_test (ev_inS true ha hb))
/-! ### built-ins -/
theorem eu_lenL {xs : List D} {ta : TE} (h : EvD K lk ta ρ (.lst xs)) : EvD K lk (tCB (rLenU K) (tCons ta tNil)) ρ (.int xs.length) := ev_cb1 (ea_cons h ea_nil) (rcl fun w vs ok _ r Q g => by
  obtain ⟨v, e, r⟩ := ars_one r
  obtain ⟨a, us, e2, sq, r2⟩ := r
  refine ⟨a, us, by rw [e, e2], .inl (sqLH ok sq), ?_⟩
  rw [r2.length]
  exact g.here (d := .int xs.length) ok rfl rfl)
theorem eu_lenT {xs : List D} {ta : TE} (h : EvD K lk ta ρ (.tup xs)) : EvD K lk (tCB (rLenU K) (tCons ta tNil)) ρ (.int xs.length) := ev_cb1 (ea_cons h ea_nil) (rcl fun w vs ok _ r Q g => by
  obtain ⟨v, e, r⟩ := ars_one r
  obtain ⟨a, us, e2, sq, r2⟩ := r
  refine ⟨a, us, by rw [e, e2], .inr (sqTH ok sq), ?_⟩
  rw [r2.length]
  exact g.here (d := .int xs.length) ok rfl rfl)
theorem eu_lenS {z : Str} {ta : TE} (h : EvD K lk ta ρ (.str z)) (hl : z.length ≤ 100000) : EvD K lk (tCB (rLenU K) (tCons ta tNil)) ρ (.int z.length) := ev_cb1 (ea_cons h ea_nil) (rcr (rcl fun w vs ok _ r Q g => by
  obtain ⟨v, e, r⟩ := ars_one r
  have e1 : v = .str z := r
  subst e1
  exact ⟨z, e, Nat.le_trans hl (by decide), g.here (d := .int z.length) ok rfl rfl⟩))
theorem eu_abs {i : Int} {ta : TE} (h : EvD K lk ta ρ (.int i)) : EvD K lk (tCB rAbs (tCons ta tNil)) ρ (.int (if i < 0 then -i else i)) := ev_cb1 (ea_cons h ea_nil) fun w vs ok _ r Q g => by
  obtain ⟨v, e, r⟩ := ars_one r
  exact ⟨i, by rw [e, show v = .int i from r], g.here (d := .int _) ok rfl rfl⟩
theorem eu_min2 {i j : Int} {ta tb : TE} (h : EvD K lk ta ρ (.int i)) (h' : EvD K lk tb ρ (.int j)) : EvD K lk (tCB rMin2 (tCons ta (tCons tb tNil))) ρ (.int (if j < i then j else i)) := ev_cb1 (ea_cons h (ea_cons h' ea_nil)) fun w vs ok _ r Q g => by
  obtain ⟨v, u, e, r1, r2⟩ := ars_two r
  exact ⟨i, j, by rw [e, show v = .int i from r1, show u = .int j from r2], g.here (d := .int _) ok rfl rfl⟩
theorem eu_max2 {i j : Int} {ta tb : TE} (h : EvD K lk ta ρ (.int i)) (h' : EvD K lk tb ρ (.int j)) : EvD K lk (tCB rMax2 (tCons ta (tCons tb tNil))) ρ (.int (if j > i then j else i)) := ev_cb1 (ea_cons h (ea_cons h' ea_nil)) fun w vs ok _ r Q g => by
  obtain ⟨v, u, e, r1, r2⟩ := ars_two r
  exact ⟨i, j, by rw [e, show v = .int i from r1, show u = .int j from r2], g.here (d := .int _) ok rfl rfl⟩
theorem eu_sum {ns : List Int} {ta : TE} (h : EvD K lk ta ρ (.lst (ns.map D.int))) : EvD K lk (tCB (rSum K) (tCons ta tNil)) ρ (.int ns.sum) := ev_cb1 (ea_cons h ea_nil) fun w vs ok _ r Q g => by
  obtain ⟨v, e, r⟩ := ars_one r
  obtain ⟨a, us, e2, sq, r2⟩ := r
  rw [r2.ints] at sq
  exact ⟨a, ns, by rw [e, e2], sqLH ok sq, g.here (d := .int ns.sum) ok rfl rfl⟩
theorem eu_all {bs : List Bool} {ta : TE} (h : EvD K lk ta ρ (.lst (bs.map D.bl))) : EvD K lk (tCB (rAll K) (tCons ta tNil)) ρ (.bl (bs.all id)) := ev_cb1 (ea_cons h ea_nil) fun w vs ok _ r Q g => by
  obtain ⟨v, e, r⟩ := ars_one r
  obtain ⟨a, us, e2, sq, r2⟩ := r
  rw [r2.bls] at sq
  exact ⟨a, bs, by rw [e, e2], sqLH ok sq, g.here (d := .bl _) ok rfl rfl⟩
theorem eu_any {bs : List Bool} {ta : TE} (h : EvD K lk ta ρ (.lst (bs.map D.bl))) : EvD K lk (tCB (rAny K) (tCons ta tNil)) ρ (.bl (bs.any id)) := ev_cb1 (ea_cons h ea_nil) fun w vs ok _ r Q g => by
  obtain ⟨v, e, r⟩ := ars_one r
  obtain ⟨a, us, e2, sq, r2⟩ := r
  rw [r2.bls] at sq
  exact ⟨a, bs, by rw [e, e2], sqLH ok sq, g.here (d := .bl _) ok rfl rfl⟩
theorem eu_tupL {xs : List D} {ta : TE} (h : EvD K lk ta ρ (.lst xs)) : EvD K lk (tCB (rTupU K) (tCons ta tNil)) ρ (.tup xs) := ev_cb1 (ea_cons h ea_nil) (rcl fun w vs ok _ r Q g => by
  obtain ⟨v, e, r⟩ := ars_one r
  obtain ⟨a, us, e2, sq, r2⟩ := r
  exact ⟨a, us, by rw [e, e2], .inl ⟨sqLH ok sq, fun l hl => g.new (d := .tup xs) ok hl True.intro ⟨l, us, rfl, .inl (.inl upd_same), r2.mono (same_new (notI ok hl))⟩ rfl⟩⟩)
theorem eu_tupO {i : Nat} {xs : List D} (hi : ρ[i]? = some (.lst xs)) : EvD K lk (tCB (rTupU K) (tCons (tVar i) tNil)) ρ (.tup xs) := fun w0 w σ s Q g => by
  obtain ⟨a, ea, h0, hI, ht, vs, hH, r⟩ := s.sl i _ hi
  exact ⟨.ref a, ea, .inl ⟨a, vs, rfl, .inl ⟨.inl (.inl hH), fun l hl => g.new (d := .tup xs) s.ok hl True.intro ⟨l, vs, rfl, .inl (.inl upd_same), r.mono (same_new (notI s.ok hl))⟩ rfl⟩⟩⟩
/-! ### tuples of texts whose object is known -/
theorem ev_w {e : D} (h : EvD K lk te ρ d) (hw : ∀ I v, Rp K I d v → Rp K I e v) : EvD K lk te ρ e := fun w0 w σ s Q g => h w0 w σ s Q fun v w' d' l ok r q => by
  subst q
  exact g v w' e l ok (hw _ _ r) rfl
theorem ev_tf {ss : List Str} (h : EvD K lk te ρ (.tf ss)) : EvD K lk te ρ (.tup (ss.map D.str)) := ev_w h fun _ _ r => tf_tup r
theorem ev_li {ns : List Int} (h : EvD K lk te ρ (.li ns)) : EvD K lk te ρ (.lst (ns.map D.int)) := ev_w h fun _ _ r => li_lst r
theorem ev_tk {ks : List Key} (h : EvD K lk te ρ (.tk ks)) : EvD K lk te ρ (.tup (ks.map kD)) := ev_w h fun _ _ r => tk_tup r
theorem eu_tup {ta : TA} {ds : List D} (h : EvA K lk ta ρ (fun x => x = dats ds)) (hl : ds.length ≤ 1000 := by exact Nat.le_of_ble_eq_true rfl) : EvD K lk (tTupU ta) ρ (.tup ds) := ev_l (ev_tup h hl)
theorem eu_tup' {ta : TA} {C : List Ar → Prop} (h : EvA K lk ta ρ C) (i : ∀ as, C as → ∃ ds, as = dats ds ∧ ds.length ≤ 1000 ∧ P (.tup ds)) : EvS K lk (tTupU ta) ρ P := ev_l (ev_tup' h i)
theorem new_tf {w : Wd} {Q : VK} {p : Addr} {o : Obj} {ss : List Str} (g : Gets K w P Q) (ok : w.Ok) (h : w.H p = none) (hd : o.dict = none) (q : P (.tf ss)) : Q (.ref p) (upd w.H p (.frz o (.tup (ss.map V.str)))) :=
  g.new (d := .tf ss) ok h True.intro ⟨p, o, rfl, upd_same, hd⟩ q
theorem eu_tupF' {ta : TA} {C : List Ar → Prop} (h : EvA K lk ta ρ C) (i : ∀ as, C as → ∃ ss : List Str, as = dats (ss.map D.str) ∧ ss.length ≤ 1000 ∧ P (.tf ss)) : EvS K lk (tTupU ta) ρ P := ev_r fun w0 w σ s Q g =>
  h w0 w σ s _ fun vs w1 as l1 ok1 r1 c => by
    obtain ⟨ss, rfl, hl, p⟩ := i as c
    have ev : vs = ss.map V.str := (ars_dats r1).strs
    subst ev
    exact ⟨by rw [List.length_map]; exact Nat.le_trans hl (by decide), fun a o ha hd => new_tf (g.up l1) ok1 ha hd p⟩
theorem eu_tupF {ta : TA} (ss : List Str) (h : EvA K lk ta ρ (fun x => x = dats (ss.map D.str))) (hl : ss.length ≤ 1000 := by exact Nat.le_of_ble_eq_true rfl) : EvD K lk (tTupU ta) ρ (.tf ss) := eu_tupF' h fun as e => ⟨ss, e, hl, rfl⟩
theorem sqT_tf {w : Wd} (ok : w.Ok) {a : Addr} {o : Obj} {ss : List Str} (h : w.I a = some (.frz o (.tup (ss.map V.str)))) : SqT K w.H a (ss.map V.str) := .inl (.inr ⟨o, ok.sub _ _ h⟩)
theorem eu_catF {xs ys : List Str} (ha : EvD K lk ta ρ (.tf xs)) (hb : EvD K lk tb ρ (.tf ys)) (hl : xs.length + ys.length ≤ 100000) : EvD K lk (tOp (rAddU K) ta tb) ρ (.tf (xs ++ ys)) := ev_op2 ha hb (rvr (rvr (rvl fun w v u ok _ r1 r2 Q g => by
  obtain ⟨a, o1, rfl, s1, d1⟩ := r1
  obtain ⟨b, o2, rfl, s2, d2⟩ := r2
  refine ⟨a, b, _, _, rfl, rfl, sqT_tf ok s1, sqT_tf ok s2, by rw [List.length_map, List.length_map]; exact Nat.le_trans hl (by decide), fun z => ?_, fun z => ?_, fun c o hc hd => ?_⟩
  · have e : xs = [] := List.map_eq_nil_iff.mp z
    subst e
    exact g.here (d := .tf ys) ok ⟨b, o2, rfl, s2, d2⟩ rfl
  · have e : ys = [] := List.map_eq_nil_iff.mp z
    subst e
    rw [List.append_nil] at g
    exact g.here (d := .tf xs) ok ⟨a, o1, rfl, s1, d1⟩ rfl
  · rw [← List.map_append]
    exact new_tf g ok hc hd rfl)))
theorem eu_tfL {ss : List Str} {ta : TE} (h : EvD K lk ta ρ (.lst (ss.map D.str))) : EvD K lk (tCB (rTupU K) (tCons ta tNil)) ρ (.tf ss) := ev_cb1 (ea_cons h ea_nil) (rcr fun w vs ok _ r Q g => by
  obtain ⟨v, e, r⟩ := ars_one r
  obtain ⟨a, us, e2, sq, r2⟩ := r
  rw [r2.strs] at sq
  exact ⟨a, _, by rw [e, e2], sqLH ok sq, fun l o hl hd => new_tf g ok hl hd rfl⟩)
theorem eu_tfO {i : Nat} {ss : List Str} (hi : ρ[i]? = some (.lst (ss.map D.str))) : EvD K lk (tCB (rTupU K) (tCons (tVar i) tNil)) ρ (.tf ss) := fun w0 w σ s Q g => by
  obtain ⟨a, ea, h0, hI, ht, vs, hH, r⟩ := s.sl i _ hi
  rw [r.strs] at hH
  exact ⟨.ref a, ea, .inr ⟨a, _, rfl, .inl (.inl hH), fun l o hl hd => new_tf g s.ok hl hd rfl⟩⟩
theorem eu_count {ss : List Str} {s : Str} (ha : EvD K lk ta ρ (.tf ss)) (hb : EvD K lk tb ρ (.str s)) : EvD K lk (tCount ta (tCons tb tNil)) ρ (.int ((ss.count s : Nat) : Int)) := fun w0 w σ sr Q g =>
  ha w0 w σ sr _ fun v w1 d l1 ok1 r1 e => by
    subst e
    obtain ⟨a, o, rfl, s1, d1⟩ := r1
    refine ⟨a, o, ss, rfl, ok1.sub _ _ s1, d1, hb w0 w1 σ (sr.mono l1 ok1) _ fun u w2 d2 l2 ok2 r2 e2 => ?_⟩
    subst e2
    have eu : u = .str s := r2
    subst eu
    exact ⟨s, rfl, ok2.sub _ _ (l2.I _ _ s1), (g.up (l1.trans l2)).here (d := .int _) ok2 rfl rfl⟩
theorem eu_list {xs : List D} {ta : TE} (h : EvD K lk ta ρ (.lst xs)) : EvD K lk (tCB (rListSq K) (tCons ta tNil)) ρ (.lst xs) := ev_cb1 (ea_cons h ea_nil) fun w vs ok _ r Q g => by
  obtain ⟨v, e, r⟩ := ars_one r
  obtain ⟨a, us, e2, sq, r2⟩ := r
  exact ⟨a, us, by rw [e, e2], .inl (sqLH ok sq), fun l hl => g.new (d := .lst xs) ok hl True.intro ⟨l, us, rfl, .inl (.inl upd_same), r2.mono (same_new (notI ok hl))⟩ rfl⟩
theorem eu_intB {b : Bool} {ta : TE} (h : EvD K lk ta ρ (.bl b)) : EvD K lk (tCB rInt1 (tCons ta tNil)) ρ (.int (if b then 1 else 0)) := ev_cb1 (ea_cons h ea_nil) fun w vs ok _ r Q g => by
  obtain ⟨v, e, r⟩ := ars_one r
  exact .inr ⟨b, by rw [e, show v = .bl b from r], g.here (d := .int _) ok rfl rfl⟩
end
end RF

set_option Elab.async false
set_option linter.all false
set_option maxRecDepth 100000
set_option maxHeartbeats 4000000
set_option autoImplicit false
namespace RF
open PySem L2

/-! ### slices -/
section
variable {K : PySem.W.Frag} {lk : Bool} {ρ : List Sl} {ta tb te : TE} {P : D → Prop}
def EvO (K : PySem.W.Frag) (lk : Bool) (to : TO) (ρ : List Sl) (o : Option Int) : Prop := ∀ (w0 w : Wd) (σ : St), Sr K lk w0 w σ ρ → ∀ Q : Option Int → Hp → Prop, (∀ w' : Wd, w.le w' → w'.Ok → Q o w'.H) → to σ w.H Q
theorem eo_none : EvO K lk tNoPart ρ none := fun w0 w σ s Q g => g w (.refl w) s.ok
theorem eo_some {i : Int} (h : EvD K lk te ρ (.int i)) : EvO K lk (tPart te) ρ (some i) := fun w0 w σ s Q g => h w0 w σ s _ fun v w1 d l ok r e => by
  subst e
  exact ⟨i, r, g w1 l ok⟩
def cutD (xs : List D) (lo hi : Option Int) : List D := (xs.drop (HT.sIx xs.length 0 lo)).take (HT.sIx xs.length xs.length hi - HT.sIx xs.length 0 lo)
theorem RpL.cut {I : Hp} {ds : List D} {vs : List V} (r : RpL K I ds vs) (lo hi : Option Int) : RpL K I (cutD ds lo hi) (cutV vs lo hi) := by
  unfold cutD cutV
  rw [r.length]
  exact (r.drop _).take _
theorem cut_whole {ds : List D} {lo hi : Option Int} (h : HT.sIx ds.length 0 lo = 0 ∧ HT.sIx ds.length ds.length hi = ds.length) : cutD ds lo hi = ds := by
  unfold cutD
  rw [h.1, h.2]
  simp
theorem eu_slT {xs : List D} {tl th : TO} {lo hi : Option Int} (h : EvD K lk te ρ (.tup xs)) (hl : EvO K lk tl ρ lo) (hh : EvO K lk th ρ hi) : EvD K lk (tSl (slU K) te tl th) ρ (.tup (cutD xs lo hi)) := fun w0 w σ s Q g =>
  h w0 w σ s _ fun v w1 d l1 ok1 r1 e => hl w0 w1 σ (s.mono l1 ok1) _ fun w2 l2 ok2 => hh w0 w2 σ ((s.mono l1 ok1).mono l2 ok2) _ fun w3 l3 ok3 => by
    subst e
    obtain ⟨a, vs, e, sq, r⟩ := r1
    have r' := r.mono (l2.trans l3).I
    have sq' := sqT_keeps (.of_same (l2.trans l3).I) sq
    refine .inl ⟨a, vs, e, sqTH ok3 sq', fun z => ?_, fun _ p hp => ?_⟩
    · rw [r.length] at z
      exact (g.up ((l1.trans l2).trans l3)).here (d := .tup (cutD xs lo hi)) ok3 (by rw [cut_whole z]; exact ⟨a, vs, rfl, sq', r'⟩) rfl
    · exact (g.up ((l1.trans l2).trans l3)).new (d := .tup (cutD xs lo hi)) ok3 hp True.intro ⟨p, _, rfl, .inl (.inl upd_same), (r'.cut lo hi).mono (same_new (notI ok3 hp))⟩ rfl
theorem eu_slL {xs : List D} {tl th : TO} {lo hi : Option Int} (h : EvD K lk te ρ (.lst xs)) (hl : EvO K lk tl ρ lo) (hh : EvO K lk th ρ hi) : EvD K lk (tSl (slU K) te tl th) ρ (.lst (cutD xs lo hi)) := fun w0 w σ s Q g =>
  h w0 w σ s _ fun v w1 d l1 ok1 r1 e => hl w0 w1 σ (s.mono l1 ok1) _ fun w2 l2 ok2 => hh w0 w2 σ ((s.mono l1 ok1).mono l2 ok2) _ fun w3 l3 ok3 => by
    subst e
    obtain ⟨a, vs, e, sq, r⟩ := r1
    have r' := r.mono (l2.trans l3).I
    have sq' := sqL_keeps (.of_same (l2.trans l3).I) sq
    refine .inr (.inl ⟨a, vs, e, sqLH ok3 sq', fun p hp => ?_⟩)
    exact (g.up ((l1.trans l2).trans l3)).new (d := .lst (cutD xs lo hi)) ok3 hp True.intro ⟨p, _, rfl, .inl (.inl upd_same), (r'.cut lo hi).mono (same_new (notI ok3 hp))⟩ rfl
def cutA {α : Type} (xs : List α) (lo hi : Option Int) : List α := (xs.drop (HT.sIx xs.length 0 lo)).take (HT.sIx xs.length xs.length hi - HT.sIx xs.length 0 lo)
theorem cut_map {α β : Type} (f : α → β) (xs : List α) (lo hi : Option Int) : cutA (xs.map f) lo hi = (cutA xs lo hi).map f := by
  unfold cutA
  rw [List.length_map, List.map_take, List.map_drop]
theorem cutA_to {α : Type} (xs : List α) (n : Nat) : cutA xs none (some (n : Int)) = xs.take n := by
  unfold cutA
  rw [HT.sIx_none, HT.sIx_nat]
  show xs.take (min n xs.length - 0) = _
  rw [Nat.sub_zero]
  by_cases h : n ≤ xs.length
  · rw [Nat.min_eq_left h]
  · rw [Nat.min_eq_right (by omega), List.take_length, List.take_of_length_le (by omega)]
theorem cutA_from {α : Type} (xs : List α) (n : Nat) : cutA xs (some (n : Int)) none = xs.drop n := by
  unfold cutA
  rw [HT.sIx_none, HT.sIx_nat]
  by_cases h : n ≤ xs.length
  · rw [Nat.min_eq_left h, List.take_of_length_le (by rw [List.length_drop]; omega)]
  · rw [Nat.min_eq_right (by omega), Nat.sub_self, List.take_zero, List.drop_eq_nil_of_le (by omega)]
/-- a slice of a tuple of texts whose object is known -/
theorem eu_slF {ss : List Str} {tl th : TO} {lo hi : Option Int} (h : EvD K lk te ρ (.tf ss)) (hl : EvO K lk tl ρ lo) (hh : EvO K lk th ρ hi) : EvD K lk (tSl (slU K) te tl th) ρ (.tf (cutA ss lo hi)) := fun w0 w σ s Q g =>
  h w0 w σ s _ fun v w1 d l1 ok1 r1 e => hl w0 w1 σ (s.mono l1 ok1) _ fun w2 l2 ok2 => hh w0 w2 σ ((s.mono l1 ok1).mono l2 ok2) _ fun w3 l3 ok3 => by
    subst e
    obtain ⟨a, o, rfl, s1, d1⟩ := r1
    have s3 := (l2.trans l3).I _ _ s1
    refine .inr (.inr ⟨a, _, rfl, sqT_tf ok3 s3, fun z => ?_, fun p o2 hp hd => ?_⟩)
    · rw [List.length_map] at z
      have e : cutA ss lo hi = ss := by
        unfold cutA
        rw [z.1, z.2]
        simp
      rw [e] at g
      exact (g.up ((l1.trans l2).trans l3)).here (d := .tf ss) ok3 ⟨a, o, rfl, s3, d1⟩ rfl
    · have e : cutV (ss.map V.str) lo hi = (cutA ss lo hi).map V.str := cut_map V.str ss lo hi
      rw [e]
      exact new_tf (g.up ((l1.trans l2).trans l3)) ok3 hp hd rfl
theorem eu_toF {ss : List Str} {n : Nat} {th : TE} (h : EvD K lk te ρ (.tf ss)) (hh : EvD K lk th ρ (.int n)) : EvD K lk (tSl (slU K) te tNoPart (tPart th)) ρ (.tf (ss.take n)) := ev_is (eu_slF h eo_none (eo_some hh)) (by rw [cutA_to])
theorem eu_fromF {ss : List Str} {n : Nat} {th : TE} (h : EvD K lk te ρ (.tf ss)) (hh : EvD K lk th ρ (.int n)) : EvD K lk (tSl (slU K) te (tPart th) tNoPart) ρ (.tf (ss.drop n)) := ev_is (eu_slF h (eo_some hh) eo_none) (by rw [cutA_from])
theorem cut_to (xs : List D) (n : Nat) : cutD xs none (some (n : Int)) = xs.take n := by
  unfold cutD
  rw [HT.sIx_none, HT.sIx_nat]
  show xs.take (min n xs.length - 0) = _
  rw [Nat.sub_zero]
  by_cases h : n ≤ xs.length
  · rw [Nat.min_eq_left h]
  · rw [Nat.min_eq_right (by omega), List.take_length, List.take_of_length_le (by omega)]
theorem cut_from (xs : List D) (n : Nat) : cutD xs (some (n : Int)) none = xs.drop n := by
  unfold cutD
  rw [HT.sIx_none, HT.sIx_nat]
  by_cases h : n ≤ xs.length
  · rw [Nat.min_eq_left h, List.take_of_length_le (by rw [List.length_drop]; omega)]
  · rw [Nat.min_eq_right (by omega), Nat.sub_self, List.take_zero, List.drop_eq_nil_of_le (by omega)]
end

/-! ### a def keeps its promise -/
def arS : Ar → Sl
  | .d x => .dat x
  | .tp => .tape
/-- the slots at the entry -/
def startS (n : Nat) (as : List Ar) : List Sl := as.map arS ++ List.replicate (n - as.length) .un
section
variable {K : PySem.W.Frag}
theorem start_at {w : Wd} : ∀ {as : List Ar} {vs : List V} (i : Nat) (s : Sl), ArsOk K w as vs → (as.map arS)[i]? = some s → SlOk K w w s (vs.map some)[i]? ∧ isOwn s = false
  | [], _, i, s, _, h => by simp at h
  | a :: as, _, 0, s, ⟨v, r, e, q, _⟩, h => by
    subst e
    have h : arS a = s := Option.some.inj h
    subst h
    cases a with
    | d x => exact ⟨⟨v, rfl, q⟩, rfl⟩
    | tp => obtain ⟨b, e, t⟩ := q; subst e; exact ⟨⟨b, rfl, t⟩, rfl⟩
  | a :: as, _, i + 1, s, ⟨v, r, e, _, q⟩, h => by
    subst e
    exact start_at i s q h
theorem sr_start {w : Wd} {N : List Str} {as : List Ar} {vs : List V} (ok : w.Ok) (h : ArsOk K w as vs) : Sr K w.lk w w (start N vs) (startS N.length as) := by
  have hl : vs.length = as.length := ars_len h
  have key : ∀ (i : Nat) (s : Sl), (startS N.length as)[i]? = some s → SlOk K w w s (start N vs)[i]? ∧ isOwn s = false := fun i s e => by
    unfold startS at e
    unfold L2.start
    by_cases hi : i < as.length
    · rw [List.getElem?_append_left (by rw [List.length_map]; exact hi)] at e
      rw [List.getElem?_append_left (by rw [List.length_map, hl]; exact hi)]
      exact start_at i s h e
    · rw [List.getElem?_append_right (by rw [List.length_map]; omega)] at e
      have : s = .un := List.eq_of_mem_replicate (List.mem_of_getElem? e)
      subst this
      exact ⟨True.intro, rfl⟩
  refine ⟨rfl, .refl w, ok, ?_, fun i s e => (key i s e).1, fun i j s t a e1 e2 o1 => ?_⟩
  · unfold L2.start startS
    rw [List.length_append, List.length_append, List.length_map, List.length_map, List.length_replicate, List.length_replicate, hl]
  · rw [(key i s e1).2] at o1
    cases o1
/-- what is wanted of a def's body -/
def Fn (R : D → Prop) : Po := { nx := fun _ => R .non, rt := R }
/-- the reading of a promise's body, from what is shown over data -/
theorem sp_run {needs : Bool} {α : Type} {enc : α → List Ar} {pre : α → Prop} {post : α → D → Prop} {t : TS} {N : List Str} (n : Nat) (hn : N.length = n)
    (h : ∀ lk, (needs = true → lk = false) → ∀ x, pre x → StS K lk t (startS n (enc x)) (Fn (post x))) (vs : List V) (H : Hp) (Q : VK) (E : XK) (hs : spP K needs enc pre post vs H Q E) : t { nx := fun _ H' => Q .non H', rt := Q } (L2.start N vs) H := by
  obtain ⟨x, w, rfl, ok, nd, ar, px, g⟩ := hs
  have sr : Sr K w.lk w w (L2.start N vs) (startS n (enc x)) := by rw [← hn]; exact sr_start ok ar
  exact h w.lk nd x px w w _ _ sr ⟨fun σ w' ρ s' q => g .non w' .non s'.le s'.ok rfl q, fun v w' d l ok' r q => g v w' d l ok' r q, fun _ _ _ _ z => z.elim, fun _ _ _ _ z => z.elim⟩
/-- a call of a promise of another form -/
theorem ev_callS {lk : Bool} {sp : Sp} {needs : Bool} {α : Type} {enc : α → List Ar} {pre : α → Prop} {post : α → D → Prop} {E : XK} {ta : TA} {C : List Ar → Prop} {ρ : List Sl} {P : D → Prop} (hsp : ∀ vs H Q E, spP K needs enc pre post vs H Q E → sp vs H Q E) (hn : needs = true → lk = false) (h : EvA K lk ta ρ C)
    (i : ∀ as, C as → ∃ x, as = enc x ∧ pre x ∧ ∀ d, post x d → P d) : EvS K lk (tCall sp [] E ta) ρ P := fun w0 w σ s Q g =>
  h w0 w σ s _ fun vs w1 as l1 ok1 r1 c => by
    obtain ⟨x, rfl, p, k⟩ := i as c
    rw [List.append_nil]
    exact hsp _ _ _ _ ⟨x, w1, rfl, ok1, fun n => by rw [l1.lk, s.lk]; exact hn n, r1, p, (g.up l1).imp k⟩
theorem ev_callO {lk : Bool} {sp : Sp} {needs : Bool} {α : Type} {enc : α → List Ar} {pre : α → Prop} {post : α → D → Prop} {E : XK} {ta : TA} {ρ : List Sl} (hsp : ∀ vs H Q E, spP K needs enc pre post vs H Q E → sp vs H Q E) (x : α) (h : EvA K lk ta ρ (fun as => as = enc x)) (p : pre x) (hn : needs = true → lk = false := by intro h; cases h) : EvS K lk (tCall sp [] E ta) ρ (post x) := ev_callS hsp hn h fun as e => ⟨x, e, p, fun d q => q⟩
theorem sp_len {needs : Bool} {α : Type} {enc : α → List Ar} {pre : α → Prop} {post : α → D → Prop} {n : Nat} (h : ∀ x, (enc x).length = n) (vs : List V) (H : Hp) (Q : VK) (E : XK) (hs : spP K needs enc pre post vs H Q E) : vs.length = n := by
  obtain ⟨x, w, rfl, ok, nd, ar, px, g⟩ := hs
  rw [ars_len ar, h]
end
/-- a def that may be called: its promise, its name, how its arguments bind -/
structure Cal (P : Program) (w : World) (K : PySem.W.Frag) (mg : Str → Option Value) (base : Heap) (k : Nat) (x : Str) (ps : List Str) (sp : Sp) : Prop where
  ex : ∃ (f : Addr) (fd : FuncData), FnOk P w K mg base CX0 k f fd ps sp ∧ mg x = some (.ref f) ∧ PySem.W.keepIn K (.ref f) = true ∧ Binds K fd ps []
/-- a def as it stands behind the top -/
structure Df (K : PySem.W.Frag) (mg : Str → Option Value) (x : Str) (st : Stmt) : Prop where
  ex : ∃ (f : Addr) (fd : FuncData), FunD K x x (defArgs st) (defBody st) (defScope st) [] [] f fd ∧ mg x = some (.ref f)
theorem Cal.mono {P : Program} {w : World} {K : PySem.W.Frag} {mg : Str → Option Value} {base : Heap} {j k : Nat} {x : Str} {ps : List Str} {sp : Sp} (c : Cal P w K mg base j x ps sp) (h : j ≤ k) : Cal P w K mg base k x ps sp := by
  obtain ⟨f, fd, F, m, kp, b⟩ := c.ex
  exact ⟨f, fd, F.mono h, m, kp, b⟩
/-- THE RULE: a def's body, its reading over data -/
theorem Df.cal {P : Program} {w : World} {K : PySem.W.Frag} {mg : Str → Option Value} {base : Heap} {k : Nat} {x : Str} {st : Stmt} {N ps : List Str} {sp : Sp} {t : TS} (F : Df K mg x st) (S : FnScope N ps (defScope st))
    (hb : ∀ (kV doc pm : Value) (an : Option Addr) (cdv ct : Value) (us : List Value), us.length = ps.length → bindArgs (PySem.W.fnOf x x (defArgs st) (defBody st) (defScope st) .none kV doc pm an cdv ct) ⟨us, []⟩ = pure (ps.zip us))
    (len : ∀ vs H Q E, sp vs H Q E → vs.length = ps.length) (run : ∀ vs H Q E, sp vs H Q E → t { nx := fun _ H' => Q .non H', rt := Q } (L2.start N vs) H)
    (der : ∀ (f : Addr) (cdv : Value) (A : Around) (outer : List Env) (s : Shared) (H : Hp) (E : XK), Room k (A.deeper (PyProof.Rows.envOfC x (defScope st) s.heap.objs.size f cdv)) → PSs (cxOf CX0 P w K mg base N x (defScope st) f cdv A outer s H E).nox (defBody st) t) :
    Cal P w K mg base (k + 1) x ps sp := by
  obtain ⟨f, fd, G, m⟩ := F.ex
  refine ⟨f, fd, ?_, m, G.kp, G.bindsN hb⟩
  exact G.ok S len fun cdv A outer s H vs Q E hr h => ⟨t, (der f cdv A outer s H E hr).nox, run vs H Q E h⟩
/-- a call of such a def -/
theorem pu_call {X : Cx} {k j : Nat} {x : Str} {ps : List Str} {sp : Sp} {p pos : Pos} {e : Expr} {es : List Expr} {t : TA} (C : Cal X.prog X.w X.K X.mg X.base j x ps sp) (hr : Room k X.A) (hj : j ≤ k) (hg : Gl X x) (ha : PA X (e :: es) t) (hx : Passes CX0 X E0)
    (hdb : (x == ("__debug__" : Str)) = false := by decide) (he : starEach (e :: es) X.env = (false, eval e X.env) :: starEach es X.env := by rfl) (hpl : (backTo pos (starEach es X.env)).any (·.1) = false := by rfl) : PE X (.Call (.Name x p) (e :: es) [] pos) (tCall sp [] E0 t) := by
  obtain ⟨f, fd, F, m, kp, b⟩ := C.ex
  exact pe_call F (hr.mono hj) hg m kp b .nil hx ha hdb he hpl
end RF

set_option Elab.async false
set_option linter.all false
set_option maxRecDepth 100000
set_option maxHeartbeats 4000000
set_option autoImplicit false
namespace RF
open PySem L2

/-! ### more readings for whatever kinds -/
def rMulZ : R2 := rI IntMulOk fun i j => .int (i * j)
def rMulU (K : PySem.W.Frag) : R2 := rOr rMulZ (rOr (rRepT K) (rRepS K))
theorem ou_mulZ {X : Cx} : OpR X (binaryOp .Mult) rMulZ := opI fun _ _ _ _ _ _ _ hc q => PyProof.Rows.mul_int q hc
theorem ou_mul {X : Cx} : OpR X (binaryOp .Mult) (rMulU X.K) := opr_or ou_mulZ (opr_or op_repT op_repS)
section
variable {K : PySem.W.Frag} {lk : Bool} {ρ : List Sl} {ta tb te : TE} {P : D → Prop} {u : TS} {p : Po} {i j : Int}
theorem eu_mul (ha : EvD K lk ta ρ (.int i)) (hb : EvD K lk tb ρ (.int j)) (h : IntMulOk i j) : EvD K lk (tOp (rMulU K) ta tb) ρ (.int (i * j)) := ev_op2 ha hb (rvl (rv_I h fun _ => rfl))
/-- a, b = x, y -/
theorem st_par {i j : Nat} {ta : TA} {a b : D} (h : EvA K lk ta ρ (fun x => x = [.d a, .d b])) (k : p.nx ((ρ.set i (.dat a)).set j (.dat b))) : StS K lk (tPar i j ta) ρ p := fun w0 w σ E s f =>
  h w0 w σ s _ fun vs w1 as l1 ok1 r1 e => by
    subst e
    obtain ⟨v, u, e, rv, ru⟩ := ars_two r1
    exact ⟨v, u, e, f.nx _ w1 _ (((s.mono l1 ok1).set i rv).set j ru) k⟩
theorem st_parq {i j : Nat} {ta : TA} {a b : D} (h : EvA K lk ta ρ (fun x => x = [.d a, .d b])) (k : StS K lk u ((ρ.set i (.dat a)).set j (.dat b)) p) : StS K lk (tSeq (tPar i j ta) u) ρ p :=
  st_seq (fun ρ' => ρ' = (ρ.set i (.dat a)).set j (.dat b)) (st_par h rfl) fun ρ' e => by rw [e]; exact k
theorem st_whileq {tt : TT} {t : TS} (W : Nat → List Sl → Prop) (m0 : Nat) (h0 : W m0 ρ) (M : List Sl → Prop)
    (hs : ∀ m ρ', W m ρ' → ∃ b, EvB K lk tt ρ' b ∧ (b = true → StS K lk t ρ' { nx := fun ρ2 => ∃ m', m' < m ∧ W m' ρ2, ct := fun ρ2 => ∃ m', m' < m ∧ W m' ρ2, bk := M, rt := p.rt }) ∧ (b = false → M ρ')) (hd : ∀ ρ', M ρ' → StS K lk u ρ' p) : StS K lk (tSeq (tWhile tt t) u) ρ p :=
  st_seq M (st_while W m0 h0 hs) hd
end
theorem div_w {i j : Int} {b : Nat} (h : 0 < j) (hb : j.natAbs < 2 ^ b) (h9 : b ≤ 9000) : CDivW i j := by
  rcases Nat.eq_zero_or_pos b with e | e
  · subst e
    have : j.natAbs = 0 := by
      have z : (2 : Nat) ^ 0 = 1 := rfl
      omega
    omega
  · exact wide_div h hb e h9

/-! ### fractions -/
def fD (q : Rat) : D := .tup [.int q.num, .int (q.den : Int)]
def Sm (n : Nat) (q : Rat) : Prop := q.num.natAbs < 2 ^ n ∧ q.den < 2 ^ n
theorem den_pos (q : Rat) : (0 : Int) < (q.den : Int) := by have := q.den_pos; omega
theorem fD_top (q : Rat) : atI [D.int q.num, D.int (q.den : Int)] 0 = some (.int q.num) := rfl
theorem fD_bot (q : Rat) : atI [D.int q.num, D.int (q.den : Int)] 1 = some (.int (q.den : Int)) := rfl
theorem frac_mk (t : Int) (b : Nat) (h : b ≠ 0) : (mkRat t b).num = t / ((t.natAbs.gcd b : Nat) : Int) ∧ (mkRat t b).den = b / t.natAbs.gcd b := by
  unfold mkRat
  rw [dif_neg h]
  have e := Rat.normalize_eq (num := t) h
  exact ⟨congrArg Rat.num e, congrArg Rat.den e⟩
section
variable {K : PySem.W.Frag}
/-! ### fraction -/
abbrev TI2 : Type := Int × Int
def sp_fraction (K : PySem.W.Frag) : Sp := spP K false (fun x : TI2 => [.d (.int x.1), .d (.int x.2)]) (fun x => 0 < x.2 ∧ x.2.natAbs < 2 ^ 5000) (fun x d => d = fD (mkRat x.1 x.2.toNat))
/-- slots: 0 top, 1 bottom, 2 one, 3 other -/
def t_fraction (K : PySem.W.Frag) : TS := (tSeq (tPar 2 3 (tCons (tCB rAbs (tCons (tVar 0) tNil)) (tCons (tVar 1) tNil))) (tSeq (tWhile (tTest (tOp (rNeU K) (tVar 3) (tC (.int 0)))) (tPar 2 3 (tCons (tVar 3) (tCons (tOp rModI (tVar 2) (tVar 3)) tNil)))) (tRet (tTupU (tCons (tOp rDivI (tVar 0) (tVar 2)) (tCons (tOp rDivI (tVar 1) (tVar 2)) tNil))))))
theorem st_fraction (lk : Bool) (x : TI2) (h0 : 0 < x.2) (hb : x.2.natAbs < 2 ^ 5000) : StS K lk (t_fraction K) (startS 4 [.d (.int x.1), .d (.int x.2)]) (Fn fun d => d = fD (mkRat x.1 x.2.toNat)) := by
  obtain ⟨t, b⟩ := x
  dsimp only at h0 hb ⊢
  obtain ⟨n, rfl⟩ : ∃ n : Nat, b = n := ⟨b.toNat, by omega⟩
  have hn : 0 < n := by omega
  have hnb : n < 2 ^ 5000 := by simpa using hb
  refine st_parq (a := .int (t.natAbs : Int)) (b := .int (n : Int)) ?_ ?_
  · refine ea_cons (ev_is (eu_abs (ev_v rfl)) ?_) (ea_cons (ev_v rfl) ea_nil)
    congr 1
    split <;> omega
  · refine st_whileq (fun m ρ => ∃ one : Nat, ρ = [.dat (.int t), .dat (.int (n : Int)), .dat (.int (one : Int)), .dat (.int (m : Int))] ∧ one.gcd m = t.natAbs.gcd n) n ⟨t.natAbs, rfl, rfl⟩
      (fun ρ => ρ = [.dat (.int t), .dat (.int (n : Int)), .dat (.int ((t.natAbs.gcd n : Nat) : Int)), .dat (.int 0)]) (fun m ρ h => ?_) fun ρ e => ?_
    · obtain ⟨one, rfl, hg⟩ := h
      refine ⟨!decide ((m : Int) = 0), et_test (eu_neI (ev_v rfl) ev_int), fun hb => ?_, fun hb => ?_⟩
      · have hm : 0 < m := by
          simp at hb
          omega
        refine st_par (a := .int (m : Int)) (b := .int ((one % m : Nat) : Int)) (ea_cons (ev_v rfl) (ea_cons (ev_is (ev_mod (ev_v rfl) (ev_v rfl) (by omega)) (by simp)) ea_nil)) ?_
        exact ⟨one % m, Nat.mod_lt _ hm, m, rfl, by rw [← hg, Nat.gcd_comm one m, Nat.gcd_rec m one, Nat.gcd_comm]⟩
      · have hm : m = 0 := by
          simp at hb
          omega
        subst hm
        rw [Nat.gcd_zero_right] at hg
        subst hg
        rfl
    · subst e
      have hg0 : 0 < t.natAbs.gcd n := Nat.gcd_pos_of_pos_right _ hn
      have hgl : t.natAbs.gcd n ≤ n := Nat.gcd_le_right _ hn
      have hc : ∀ i : Int, CDivW i ((t.natAbs.gcd n : Nat) : Int) := fun i => div_w (b := 5000) (by omega) (by simp; omega) (by decide)
      refine st_ret (eu_tup (ds := [.int (t / ((t.natAbs.gcd n : Nat) : Int)), .int ((n : Int) / ((t.natAbs.gcd n : Nat) : Int))]) (ea_cons (ev_divW (ev_v rfl) (ev_v rfl) (hc _)) (ea_cons (ev_divW (ev_v rfl) (ev_v rfl) (hc _)) ea_nil))) fun d e => ?_
      show d = _
      obtain ⟨e1, e2⟩ := frac_mk t n (by omega)
      rw [e, show ((n : Int)).toNat = n by omega]
      unfold fD
      rw [e1, e2]
      rfl
theorem run_fraction : ∀ vs H Q E, sp_fraction K vs H Q E → t_fraction K { nx := fun _ H' => Q .non H', rt := Q } (L2.start ["top", "bottom", "one", "other"] vs) H := sp_run 4 rfl fun lk _ x h => st_fraction lk x h.1 h.2
end
end RF

set_option Elab.async false
set_option linter.all false
set_option maxRecDepth 100000
set_option maxHeartbeats 4000000
set_option autoImplicit false
namespace RF
open PySem L2

/-! ### pairs of a dict over data -/
section
variable {κ α : Type} [DecidableEq κ]
def getD' (kvs : List (κ × α)) (k : κ) : Option α := (kvs.find? fun kv => decide (kv.1 = k)).map (·.2)
def putD (kvs : List (κ × α)) (k : κ) (v : α) : List (κ × α) := if (kvs.any fun kv => decide (kv.1 = k)) = true then kvs.map (fun kv => if kv.1 = k then (kv.1, v) else kv) else kvs ++ [(k, v)]
theorem getD'_nil (k : κ) : getD' ([] : List (κ × α)) k = none := rfl
theorem getD'_cons (p : κ × α) (r : List (κ × α)) (k : κ) : getD' (p :: r) k = if p.1 = k then some p.2 else getD' r k := by
  unfold getD'
  rw [List.find?_cons]
  by_cases e : p.1 = k
  · simp [e]
  · simp [e]
theorem any_getD' (k : κ) : ∀ kvs : List (κ × α), (kvs.any fun kv => decide (kv.1 = k)) = (getD' kvs k).isSome
  | [] => rfl
  | p :: r => by
    rw [List.any_cons, any_getD' k r, getD'_cons]
    by_cases e : p.1 = k <;> simp [e]
theorem getD'_append (k : κ) (ys : List (κ × α)) : ∀ xs : List (κ × α), getD' (xs ++ ys) k = (getD' xs k).or (getD' ys k)
  | [] => by simp [getD'_nil]
  | p :: r => by
    rw [List.cons_append, getD'_cons, getD'_cons, getD'_append k ys r]
    by_cases e : p.1 = k <;> simp [e]
theorem getD'_put (kvs : List (κ × α)) (k j : κ) (v : α) : getD' (putD kvs k v) j = if j = k then some v else getD' kvs j := by
  unfold putD
  rw [any_getD']
  cases h : getD' kvs k with
  | none =>
    rw [if_neg (by simp), getD'_append, getD'_cons, getD'_nil]
    by_cases e : j = k
    · subst e; simp [h]
    · have : ¬ k = j := fun z => e z.symm
      simp [e, this]
  | some w =>
    rw [if_pos (by rfl)]
    have key : ∀ l : List (κ × α), getD' (l.map fun kv => if kv.1 = k then (kv.1, v) else kv) j = if j = k then (getD' l j).map (fun _ => v) else getD' l j := fun l => by
      induction l with
      | nil => simp [getD'_nil]
      | cons p r ih =>
        rw [List.map_cons, getD'_cons, getD'_cons, ih]
        by_cases e : p.1 = k
        · rw [if_pos e]
          by_cases e2 : j = k
          · subst e2; simp [e]
          · have : ¬ p.1 = j := fun z => e2 (z.symm.trans e)
            simp [this, e2]
        · rw [if_neg e]
          by_cases e2 : j = k
          · subst e2; simp [e]
          · by_cases e3 : p.1 = j <;> simp [e2, e3]
    rw [key]
    by_cases e : j = k
    · subst e; simp [h]
    · simp [e]
theorem keys_put (kvs : List (κ × α)) (k : κ) (v : α) : (putD kvs k v).map (·.1) = if k ∈ kvs.map (·.1) then kvs.map (·.1) else kvs.map (·.1) ++ [k] := by
  unfold putD
  have e : (kvs.any fun kv => decide (kv.1 = k)) = decide (k ∈ kvs.map (·.1)) := by
    rw [Bool.eq_iff_iff, List.any_eq_true, decide_eq_true_iff, List.mem_map]
    constructor
    · rintro ⟨p, hp, z⟩; exact ⟨p, hp, of_decide_eq_true z⟩
    · rintro ⟨p, hp, z⟩; exact ⟨p, hp, decide_eq_true z⟩
  rw [e]
  by_cases h : k ∈ kvs.map (·.1)
  · rw [if_pos (decide_eq_true h), if_pos h, List.map_map]
    congr 1
    funext p
    show (if p.1 = k then (p.1, v) else p).1 = p.1
    split <;> rfl
  · rw [if_neg (by rw [decide_eq_false h]; decide), if_neg h, List.map_append]
    rfl
theorem nodup_put {kvs : List (κ × α)} (h : (kvs.map (·.1)).Nodup) (k : κ) (v : α) : ((putD kvs k v).map (·.1)).Nodup := by
  rw [keys_put]
  split
  · exact h
  · rename_i hk
    rw [List.nodup_append]
    refine ⟨h, by simp, fun a ha b hb => ?_⟩
    rw [List.mem_singleton.mp hb]
    exact fun e => hk (e ▸ ha)
theorem length_put (kvs : List (κ × α)) (k : κ) (v : α) : (putD kvs k v).length ≤ kvs.length + 1 := by
  unfold putD
  split
  · rw [List.length_map]; exact Nat.le_succ _
  · rw [List.length_append]; exact Nat.le_refl _
end
section
variable {K : PySem.W.Frag} {I : Hp}
theorem RpK.length : ∀ {ds : List (Key × D)} {vs : List (Key × V)}, RpK K I ds vs → vs.length = ds.length
  | [], _, r => by rw [show _ = [] from r]; rfl
  | (k, d) :: ds, _, ⟨x, t, e, r, q⟩ => by rw [e, List.length_cons, List.length_cons, RpK.length q]
theorem RpT.length : ∀ {ds : List (List Key × D)} {vs : List (List Key × V)}, RpT K I ds vs → vs.length = ds.length
  | [], _, r => by rw [show _ = [] from r]; rfl
  | (k, d) :: ds, _, ⟨x, t, e, r, q⟩ => by rw [e, List.length_cons, List.length_cons, RpT.length q]
theorem RpK.keys : ∀ {ds : List (Key × D)} {vs : List (Key × V)}, RpK K I ds vs → vs.map (·.1) = ds.map (·.1)
  | [], _, r => by rw [show _ = [] from r]; rfl
  | (k, d) :: ds, _, ⟨x, t, e, r, q⟩ => by rw [e, List.map_cons, List.map_cons, RpK.keys q]
theorem RpT.keys : ∀ {ds : List (List Key × D)} {vs : List (List Key × V)}, RpT K I ds vs → vs.map (·.1) = ds.map (·.1)
  | [], _, r => by rw [show _ = [] from r]; rfl
  | (k, d) :: ds, _, ⟨x, t, e, r, q⟩ => by rw [e, List.map_cons, List.map_cons, RpT.keys q]
theorem RpK.get (k : Key) : ∀ {ds : List (Key × D)} {vs : List (Key × V)}, RpK K I ds vs → (getD' ds k = none ∧ valV vs k = none) ∨ ∃ d v, getD' ds k = some d ∧ valV vs k = some v ∧ Rp K I d v
  | [], _, r => by rw [show _ = [] from r]; exact .inl ⟨rfl, rfl⟩
  | (j, d) :: ds, _, ⟨x, t, e, r, q⟩ => by
    subst e
    rw [getD'_cons]
    by_cases z : j = k
    · rw [if_pos z, valV_pos z]; exact .inr ⟨d, x, rfl, rfl, r⟩
    · rw [if_neg z, valV_neg z]; exact RpK.get k q
theorem RpT.get (k : List Key) : ∀ {ds : List (List Key × D)} {vs : List (List Key × V)}, RpT K I ds vs → (getD' ds k = none ∧ valV vs k = none) ∨ ∃ d v, getD' ds k = some d ∧ valV vs k = some v ∧ Rp K I d v
  | [], _, r => by rw [show _ = [] from r]; exact .inl ⟨rfl, rfl⟩
  | (j, d) :: ds, _, ⟨x, t, e, r, q⟩ => by
    subst e
    rw [getD'_cons]
    by_cases z : j = k
    · rw [if_pos z, valV_pos z]; exact .inr ⟨d, x, rfl, rfl, r⟩
    · rw [if_neg z, valV_neg z]; exact RpT.get k q
theorem RpK.map_put {k : Key} {d : D} {v : V} (h : Rp K I d v) : ∀ {ds : List (Key × D)} {vs : List (Key × V)}, RpK K I ds vs → RpK K I (ds.map fun kv => if kv.1 = k then (kv.1, d) else kv) (vs.map fun kv => if kv.1 = k then (kv.1, v) else kv)
  | [], _, r => by rw [show _ = [] from r]; exact rfl
  | (j, e) :: ds, _, ⟨x, t, z, r, q⟩ => by
    subst z
    by_cases c : j = k
    · rw [List.map_cons, List.map_cons]; simp only [c, if_true]; exact ⟨v, _, rfl, h, RpK.map_put h q⟩
    · rw [List.map_cons, List.map_cons]; simp only [c, if_false]; exact ⟨x, _, rfl, r, RpK.map_put h q⟩
theorem RpT.map_put {k : List Key} {d : D} {v : V} (h : Rp K I d v) : ∀ {ds : List (List Key × D)} {vs : List (List Key × V)}, RpT K I ds vs → RpT K I (ds.map fun kv => if kv.1 = k then (kv.1, d) else kv) (vs.map fun kv => if kv.1 = k then (kv.1, v) else kv)
  | [], _, r => by rw [show _ = [] from r]; exact rfl
  | (j, e) :: ds, _, ⟨x, t, z, r, q⟩ => by
    subst z
    by_cases c : j = k
    · rw [List.map_cons, List.map_cons]; simp only [c, if_true]; exact ⟨v, _, rfl, h, RpT.map_put h q⟩
    · rw [List.map_cons, List.map_cons]; simp only [c, if_false]; exact ⟨x, _, rfl, r, RpT.map_put h q⟩
theorem RpK.snoc {k : Key} {d : D} {v : V} (h : Rp K I d v) : ∀ {ds : List (Key × D)} {vs : List (Key × V)}, RpK K I ds vs → RpK K I (ds ++ [(k, d)]) (vs ++ [(k, v)])
  | [], _, r => by rw [show _ = [] from r]; exact ⟨v, [], rfl, h, rfl⟩
  | (j, e) :: ds, _, ⟨x, t, z, r, q⟩ => ⟨x, _, by rw [z]; rfl, r, RpK.snoc h q⟩
theorem RpT.snoc {k : List Key} {d : D} {v : V} (h : Rp K I d v) : ∀ {ds : List (List Key × D)} {vs : List (List Key × V)}, RpT K I ds vs → RpT K I (ds ++ [(k, d)]) (vs ++ [(k, v)])
  | [], _, r => by rw [show _ = [] from r]; exact ⟨v, [], rfl, h, rfl⟩
  | (j, e) :: ds, _, ⟨x, t, z, r, q⟩ => ⟨x, _, by rw [z]; rfl, r, RpT.snoc h q⟩
theorem RpK.put {k : Key} {d : D} {v : V} {ds : List (Key × D)} {vs : List (Key × V)} (q : RpK K I ds vs) (h : Rp K I d v) : RpK K I (putD ds k d) (putK vs k v) := by
  unfold putD putK
  rw [any_getD', valV_any]
  rcases q.get k with ⟨e1, e2⟩ | ⟨e, u, e1, e2, _⟩
  · rw [e1, e2, if_neg (by simp), if_neg (by simp)]; exact q.snoc h
  · rw [e1, e2, if_pos (by rfl), if_pos (by rfl)]; exact q.map_put h
theorem RpT.put {k : List Key} {d : D} {v : V} {ds : List (List Key × D)} {vs : List (List Key × V)} (q : RpT K I ds vs) (h : Rp K I d v) : RpT K I (putD ds k d) (putK vs k v) := by
  unfold putD putK
  rw [any_getD', valV_any]
  rcases q.get k with ⟨e1, e2⟩ | ⟨e, u, e1, e2, _⟩
  · rw [e1, e2, if_neg (by simp), if_neg (by simp)]; exact q.snoc h
  · rw [e1, e2, if_pos (by rfl), if_pos (by rfl)]; exact q.map_put h
theorem kD_inj {I J : Hp} {k : Key} {v : V} (h : Rp K I (kD k) v) : v = kV k := by cases k <;> exact h
end

/-! ### dicts over data -/
section
variable {K : PySem.W.Frag} {lk : Bool} {ρ : List Sl} {ta tb te : TE} {P : D → Prop} {u : TS} {p : Po} {d : D}
theorem dget_k {w : Wd} (ok : w.Ok) {kvs : List (Key × D)} {v : V} {k : Key} (r : Rp K w.I (.dk kvs) v) : ∃ a o, v = .ref a ∧ DGet w.H a (kV k) o ∧ ((getD' kvs k = none ∧ o = none) ∨ ∃ d z, getD' kvs k = some d ∧ o = some z ∧ Rp K w.I d z) := by
  obtain ⟨a, es, e, rd, r⟩ := r
  exact ⟨a, valV es k, e, .inl ⟨es, k, rd_same ok.sub rd, rfl, rfl⟩, r.get k⟩
theorem dget_t {w : Wd} (ok : w.Ok) {kvs : List (List Key × D)} {v y : V} {k : List Key} (r : Rp K w.I (.dt kvs) v) (ry : Rp K w.I (.tk k) y) : ∃ a o, v = .ref a ∧ DGet w.H a y o ∧ ((getD' kvs k = none ∧ o = none) ∨ ∃ d z, getD' kvs k = some d ∧ o = some z ∧ Rp K w.I d z) := by
  obtain ⟨a, es, e, rd, r⟩ := r
  obtain ⟨b, rfl, hb⟩ := ry
  exact ⟨a, valV es k, e, .inr ⟨es, k, b, rd_same ok.sub rd, rfl, ok.sub _ _ hb, rfl⟩, r.get k⟩
/-- d[k], there -/
theorem eu_dget {kvs : List (Key × D)} {k : Key} (ha : EvD K lk ta ρ (.dk kvs)) (hb : EvD K lk tb ρ (kD k)) (h : getD' kvs k = some d) : EvD K lk (rIxU K ta tb) ρ d := ev_r (ev_r fun w0 w σ s Q g =>
  ha w0 w σ s _ fun v w1 x l1 ok1 r1 e => hb w0 w1 σ (s.mono l1 ok1) _ fun y w2 x2 l2 ok2 r2 e2 => by
    subst e e2
    obtain ⟨a, o, ev, dg, c⟩ := dget_k (k := k) ok2 (r1.mono l2.I)
    rcases c with ⟨c, _⟩ | ⟨d', z, c, ez, rz⟩
    · rw [h] at c; cases c
    · rw [h] at c
      cases c
      subst ez
      rw [kD_inj (J := w2.I) r2]
      exact ⟨a, z, ev, dg, (g.up (l1.trans l2)).here ok2 rz rfl⟩)
theorem eu_dgetT {kvs : List (List Key × D)} {k : List Key} (ha : EvD K lk ta ρ (.dt kvs)) (hb : EvD K lk tb ρ (.tk k)) (h : getD' kvs k = some d) : EvD K lk (rIxU K ta tb) ρ d := ev_r (ev_r fun w0 w σ s Q g =>
  ha w0 w σ s _ fun v w1 x l1 ok1 r1 e => hb w0 w1 σ (s.mono l1 ok1) _ fun y w2 x2 l2 ok2 r2 e2 => by
    subst e e2
    obtain ⟨a, o, ev, dg, c⟩ := dget_t ok2 (r1.mono l2.I) r2
    rcases c with ⟨c, _⟩ | ⟨d', z, c, ez, rz⟩
    · rw [h] at c; cases c
    · rw [h] at c
      cases c
      subst ez
      exact ⟨a, z, ev, dg, (g.up (l1.trans l2)).here ok2 rz rfl⟩)
/-! ### a dict of the frame's own -/
theorem st_newK {i : Nat} (k : StS K lk u (ρ.set i (.dk [])) p) : StS K lk (tSeq (tAsg (eOr tDNewK tDNewT) (gName i)) u) ρ p := fun w0 w σ E s f => .inl fun a ha =>
  k w0 (w.put a (.dK [])) _ E (s.grow i True.intro ha ⟨s.le.dom a ha, notI s.ok ha, not_tape s.ok ha, [], upd_same, rfl⟩) f
theorem st_newT {i : Nat} (k : StS K lk u (ρ.set i (.dt [])) p) : StS K lk (tSeq (tAsg (eOr tDNewK tDNewT) (gName i)) u) ρ p := fun w0 w σ E s f => .inr fun a ha =>
  k w0 (w.put a (.dT [])) _ E (s.grow i True.intro ha ⟨s.le.dom a ha, notI s.ok ha, not_tape s.ok ha, [], upd_same, rfl⟩) f
def tsOr (t v : TS) : TS := fun E σ H => t E σ H ∨ v E σ H
theorem psor {X : Cx} {st : Stmt} {t v : TS} (h : PS X st t) (k : PS X st v) : PS X st (tsOr t v) := ⟨fun pins s σ H E I z => z.elim (h.run pins s σ H E I) (k.run pins s σ H E I)⟩
/-- o[i] = e -/
def sPutU (to ti tv : TE) : TS := tsOr (tAsg tv (gSub to ti rSetL)) (sDPut to ti tv)
/-- d[k] = e, d the frame's own -/
theorem st_putK {i : Nat} {kvs : List (Key × D)} {k : Key} (hi : ρ[i]? = some (.dk kvs)) (hk : EvD K lk tb ρ (kD k)) (h : EvS K lk te ρ P) (hl : kvs.length < 100000) (q : ∀ d, P d → p.nx (ρ.set i (.dk (putD kvs k d)))) : StS K lk (sPutU (tVar i) tb te) ρ p := fun w0 w σ E s f => .inr
  (h w0 w σ s _ fun v w1 d l1 ok1 r1 c => by
    have s1 := s.mono l1 ok1
    obtain ⟨a, ea, _⟩ := s1.sl i _ hi
    refine ⟨.ref a, ea, hk w0 w1 σ s1 _ fun y w2 x2 l2 ok2 r2 e2 => ?_⟩
    subst e2
    have s2 := s1.mono l2 ok2
    obtain ⟨a', ea', h0, hI, ht, es, hH, r⟩ := s2.sl i _ hi
    rw [ea] at ea'
    cases ea'
    rw [kD_inj (J := w2.I) r2]
    refine ⟨a, upd w2.H a (.dK (putK es k v)), rfl, .inl ⟨es, k, hH, rfl, by rw [r.length]; exact Nat.lt_trans hl (by decide), rfl⟩, ?_⟩
    exact f.nx σ (w2.put a (.dK (putK es k v))) _ (s2.own (t := .dk (putD kvs k d)) hi rfl ea _ True.intro ⟨h0, hI, ht, _, upd_same, r.put (r1.mono l2.I)⟩) (q d c))
theorem st_putT {i : Nat} {kvs : List (List Key × D)} {k : List Key} (hi : ρ[i]? = some (.dt kvs)) (hk : EvD K lk tb ρ (.tk k)) (h : EvS K lk te ρ P) (hl : kvs.length < 100000) (q : ∀ d, P d → p.nx (ρ.set i (.dt (putD kvs k d)))) : StS K lk (sPutU (tVar i) tb te) ρ p := fun w0 w σ E s f => .inr
  (h w0 w σ s _ fun v w1 d l1 ok1 r1 c => by
    have s1 := s.mono l1 ok1
    obtain ⟨a, ea, _⟩ := s1.sl i _ hi
    refine ⟨.ref a, ea, hk w0 w1 σ s1 _ fun y w2 x2 l2 ok2 r2 e2 => ?_⟩
    subst e2
    have s2 := s1.mono l2 ok2
    obtain ⟨a', ea', h0, hI, ht, es, hH, r⟩ := s2.sl i _ hi
    rw [ea] at ea'
    cases ea'
    obtain ⟨b, rfl, hb⟩ := r2
    refine ⟨a, upd w2.H a (.dT (putK es k v)), rfl, .inr ⟨es, k, b, hH, rfl, ok2.sub _ _ hb, by rw [r.length]; exact Nat.lt_trans hl (by decide), rfl⟩, ?_⟩
    exact f.nx σ (w2.put a (.dT (putK es k v))) _ (s2.own (t := .dt (putD kvs k d)) hi rfl ea _ True.intro ⟨h0, hI, ht, _, upd_same, r.put (r1.mono l2.I)⟩) (q d c))
/-- return d, d the frame's own -/
theorem st_retK {i : Nat} {xs : List (Key × D)} (hi : ρ[i]? = some (.dk xs)) (k : p.rt (.dk xs)) : StS K lk (tRet (tVar i)) ρ p := fun w0 w σ E s f => by
  obtain ⟨a, ea, h0, hI, ht, vs, hH, r⟩ := s.sl i _ hi
  refine ⟨.ref a, ea, f.rt (.ref a) (w.fix a (.dK vs)) (.dk xs) (Wd.le_fix s.le h0 hI) (Wd.fix_ok s.ok hI hH ht) ?_ k⟩
  exact ⟨a, vs, rfl, .inl upd_same, r.keeps (.of_same (same_new hI))⟩
end
end RF

set_option Elab.async false
set_option linter.all false
set_option autoImplicit false
namespace RF
open PySem
/-! ### texts in order -/
def leS (a b : Str) : Bool := !decide (b.cps.toList < a.cps.toList)
def ltS (a b : Str) : Prop := a.cps.toList < b.cps.toList
instance (a b : Str) : Decidable (ltS a b) := inferInstanceAs (Decidable (_ < _))
theorem str_ext {a b : Str} (h : a.cps.toList = b.cps.toList) : a = b := by
  cases a; cases b
  simp at h
  rw [h]
theorem ltS_irrefl (a : Str) : ¬ ltS a a := List.lt_irrefl _
theorem ltS_trans {a b c : Str} (h : ltS a b) (k : ltS b c) : ltS a c := List.lt_trans h k
theorem ltS_total (a b : Str) : ltS a b ∨ a = b ∨ ltS b a := by
  by_cases h1 : a.cps.toList < b.cps.toList
  · exact .inl h1
  · by_cases h2 : b.cps.toList < a.cps.toList
    · exact .inr (.inr h2)
    · exact .inr (.inl (str_ext (List.le_antisymm (List.not_lt.mp h2) (List.not_lt.mp h1))))
theorem leS_iff {a b : Str} : leS a b = true ↔ ¬ ltS b a := by
  unfold leS ltS
  simp
theorem leS_trans (a b c : Str) (h : leS a b = true) (k : leS b c = true) : leS a c = true := by
  rw [leS_iff] at *
  intro z
  rcases ltS_total a b with x | x | x
  · exact k (ltS_trans z x)
  · subst x; exact k z
  · exact h x
theorem leS_total (a b : Str) : (leS a b || leS b a) = true := by
  rw [Bool.or_eq_true, leS_iff, leS_iff]
  rcases ltS_total a b with x | x | x
  · exact .inl fun z => ltS_irrefl _ (ltS_trans x z)
  · subst x; exact .inl (ltS_irrefl _)
  · exact .inr fun z => ltS_irrefl _ (ltS_trans x z)
theorem leS_anti {a b : Str} (h : leS a b = true) (k : leS b a = true) : a = b := by
  rw [leS_iff] at *
  rcases ltS_total a b with x | x | x
  · exact absurd x k
  · exact x
  · exact absurd x h
def sortS (xs : List Str) : List Str := xs.mergeSort leS
theorem sortS_perm (xs : List Str) : (sortS xs).Perm xs := List.mergeSort_perm xs leS
theorem sortS_sorted (xs : List Str) : (sortS xs).Pairwise fun a b => leS a b = true := List.pairwise_mergeSort leS_trans leS_total xs
theorem rising_pw : ∀ (p : Str) (xs : List Str), PyProof.Rows.risingS p xs = true → (p :: xs).Pairwise fun a b => leS a b = true
  | p, [], _ => by simp
  | p, x :: r, h => by
    have h : (!PySem.Spec.ltCps x.cps.toList p.cps.toList && PyProof.Rows.risingS x r) = true := h
    rw [Bool.and_eq_true] at h
    have ih := rising_pw x r h.2
    have hp : leS p x = true := by
      unfold leS
      have e := h.1
      rw [PyProof.Rows.ltCps_eq] at e
      exact e
    rw [List.pairwise_cons]
    refine ⟨fun a ha => ?_, ih⟩
    rcases List.mem_cons.mp ha with z | z
    · rw [z]; exact hp
    · exact leS_trans _ _ _ hp ((List.pairwise_cons.mp ih).1 a z)
theorem sorted_pw {xs : List Str} (h : PyProof.Rows.sortedS xs = true) : xs.Pairwise fun a b => leS a b = true := by
  cases xs with
  | nil => exact .nil
  | cons x r => exact rising_pw x r h
/-- two lists in order with the same items are one -/
theorem pw_unique : ∀ {xs ys : List Str}, xs.Perm ys → xs.Pairwise (fun a b => leS a b = true) → ys.Pairwise (fun a b => leS a b = true) → xs = ys
  | [], ys, h, _, _ => (List.nil_perm.mp h).symm
  | x :: xs, [], h, _, _ => absurd (List.perm_nil.mp h) (by simp)
  | x :: xs, y :: ys, h, h1, h2 => by
    have e : x = y := by
      have hx : x ∈ y :: ys := h.mem_iff.mp (by simp)
      have hy : y ∈ x :: xs := h.mem_iff.mpr (by simp)
      rcases List.mem_cons.mp hx with z | z
      · exact z
      · rcases List.mem_cons.mp hy with z' | z'
        · exact z'.symm
        · exact leS_anti ((List.pairwise_cons.mp h1).1 y z') ((List.pairwise_cons.mp h2).1 x z)
    subst e
    rw [pw_unique (List.Perm.cons_inv h) (List.pairwise_cons.mp h1).2 (List.pairwise_cons.mp h2).2]
theorem sortS_unique {xs ys : List Str} (h : ys.Perm xs) (h1 : PyProof.Rows.sortedS ys = true) : ys = sortS xs := pw_unique (h.trans (sortS_perm xs).symm) (sorted_pw h1) (sortS_sorted xs)
end RF

set_option Elab.async false
set_option linter.all false
set_option maxRecDepth 100000
set_option maxHeartbeats 4000000
set_option autoImplicit false
namespace RF
open PySem L2

section
variable {K : PySem.W.Frag} {lk : Bool} {ρ : List Sl} {ta tb te tk tv : TE} {P : D → Prop} {g g1 : TG} {wi wi1 : TI} {d : D}
/-! ### {k: v for .. in .. for .. in ..}, the keys ints or texts -/
def dFold {κ α : Type} [DecidableEq κ] (v : α) (acc : List (κ × α)) (ks : List κ) : List (κ × α) := ks.foldl (fun a k => putD a k v) acc
theorem dFold_len {κ α : Type} [DecidableEq κ] (v : α) : ∀ (ks : List κ) (acc : List (κ × α)), (dFold v acc ks).length ≤ acc.length + ks.length
  | [], acc => Nat.le_refl _
  | k :: ks, acc => by
    have h := dFold_len v ks (putD acc k v)
    have h2 := length_put acc k v
    show (dFold v (putD acc k v) ks).length ≤ acc.length + (ks.length + 1)
    omega
theorem dFold_append {κ α : Type} [DecidableEq κ] (v : α) (acc : List (κ × α)) (a b : List κ) : dFold v acc (a ++ b) = dFold v (dFold v acc a) b := by unfold dFold; rw [List.foldl_append]
theorem take_succ_of {α : Type} {xs : List α} {i : Nat} {x : α} (h : xs[i]? = some x) : xs.take (i + 1) = xs.take i ++ [x] := by rw [List.take_add_one, h]; rfl
theorem ev_dc2K {js js1 vs vs1 : List Nat} {xs : List D} (hi : ItS K lk wi ρ (fun ys => ys = xs)) (ks : D → List Key) (val : D) (hl : (xs.flatMap ks).length ≤ 100000) (hj : ∀ j ∈ js, j ∈ vs) (hj1 : ∀ j ∈ js1, j ∈ vs1)
    (turn : ∀ x ∈ xs, ∃ ρ2 ys, TgS K lk g js x (wipeS ρ vs) ρ2 ∧ ItS K lk wi1 ρ2 (fun zs => zs = ys) ∧ ys.length = (ks x).length ∧
      ∀ (j : Nat) (y : D) (k : Key), ys[j]? = some y → (ks x)[j]? = some k → ∃ ρ3, TgS K lk g1 js1 y (wipeS ρ2 vs1) ρ3 ∧ EvD K lk tk ρ3 (kD k) ∧ EvD K lk tv ρ3 val) :
    EvD K lk (tDc2 wi g wi1 g1 tk tv vs vs1) ρ (.dk (dFold val [] (xs.flatMap ks))) := fun w0 w σ s Q gq => ⟨true, hi w0 w σ s _ fun J w1 xs' l1 ok1 hX Y Dl hD => by
    have hX : xs' = xs := hX
    subst hX
    have s1 := s.mono l1 ok1
    have tpD : w1.tp ≠ some Dl := not_tape ok1 hD
    have hDI : w1.I Dl = none := notI ok1 hD
    -- what holds of the dict and the world: kvs its pairs
    let Ok : List (Key × D) → Wd → Prop := fun kvs w' => w1.le w' ∧ w'.Ok ∧ w'.I Dl = none ∧ ∃ es, w'.H Dl = some (.dK es) ∧ RpK K w'.I kvs es
    have okUp : ∀ {kvs w' wa}, Ok kvs w' → w'.le wa → wa.Ok → Ok kvs wa := fun {kvs w' wa} o la oka => by
      obtain ⟨o1, o2, o3, es, o4, o5⟩ := o
      exact ⟨o1.trans la, oka, la.fr Dl o3 (by rw [o4]; exact fun z => nomatch z), es, la.H Dl _ o4 (by rw [o1.tp]; exact tpD), o5.keeps (.of_same la.I)⟩
    refine ⟨fun i m H' => m = xs'.length - i ∧ i ≤ xs'.length ∧ ∃ w', w'.H = H' ∧ Ok (dFold val [] ((xs'.take i).flatMap ks)) w',
      ⟨xs'.length, by simp, Nat.zero_le _, w1.put Dl (.dK []), rfl, Wd.le_put (.refl w1) hD, Wd.put_ok ok1 hDI tpD True.intro, hDI, [], upd_same, rfl⟩, ?_⟩
    rintro i m H' ⟨rfl, hle, w', rfl, okw⟩
    by_cases hlt : i < xs'.length
    · have hx : xs'[i]? = some xs'[i] := List.getElem?_eq_getElem hlt
      obtain ⟨ρ2, ys, tg, hi1, hlen, trn⟩ := turn xs'[i] (List.getElem_mem hlt)
      refine .inr ⟨Y.go i w' okw.2.1 okw.1.I hlt, fun H2 => ∃ w2, w2.H = H2 ∧ Ok (dFold val [] ((xs'.take (i + 1)).flatMap ks)) w2, fun H2 ⟨w2, e2, q⟩ => ⟨xs'.length - (i + 1), by omega, rfl, hlt, w2, e2, q⟩, fun v H2 y => ?_⟩
      obtain ⟨w2, rfl, l2, ok2, r2⟩ := Y.yld i w' v H2 okw.2.1 okw.1.I y _ hx
      have o2 := okUp okw l2 ok2
      have sw2 := (s1.mono o2.1 ok2).wipe vs
      refine tg w0 w2 _ v sw2 r2 _ fun σ3 st3 sb => ⟨wipe_same sb hj, hi1 w0 w2 σ3 (st3 w2 sw2 (Same.refl _)) _ fun J1 w3 ys' l3 ok3 hY Y1 => ?_⟩
      have hY : ys' = ys := hY
      subst hY
      have o3 := okUp o2 l3 ok3
      refine ⟨fun j k H4 => k = ys'.length - j ∧ j ≤ ys'.length ∧ ∃ w4, w4.H = H4 ∧ Same w3.I w4.I ∧ Ok (dFold val (dFold val [] ((xs'.take i).flatMap ks)) ((ks xs'[i]).take j)) w4, ⟨ys'.length, by simp, Nat.zero_le _, w3, rfl, Same.refl _, o3⟩, ?_⟩
      rintro j k H4 ⟨rfl, hjle, w4, rfl, sm4, o4⟩
      by_cases hjl : j < ys'.length
      · have hy : ys'[j]? = some ys'[j] := List.getElem?_eq_getElem hjl
        have hjk : j < (ks xs'[i]).length := by omega
        have hk : (ks xs'[i])[j]? = some (ks xs'[i])[j] := List.getElem?_eq_getElem hjk
        obtain ⟨ρ3, tg1, ek, ev⟩ := trn j _ _ hy hk
        refine .inr ⟨Y1.go j w4 o4.2.1 sm4 hjl, fun H5 => ∃ w5, w5.H = H5 ∧ Same w3.I w5.I ∧ Ok (dFold val (dFold val [] ((xs'.take i).flatMap ks)) ((ks xs'[i]).take (j + 1))) w5, fun H5 ⟨w5, e5, sm5, q⟩ => ⟨ys'.length - (j + 1), by omega, rfl, hjl, w5, e5, sm5, q⟩, fun v1 H5 y1 => ?_⟩
        obtain ⟨w5, rfl, l5, ok5, r5⟩ := Y1.yld j w4 v1 H5 o4.2.1 sm4 y1 _ hy
        have o5 := okUp o4 l5 ok5
        have sm25 : Same w2.I w5.I := (l3.I.trans sm4).trans l5.I
        have s5 := (st3 w5 ((s1.mono o5.1 ok5).wipe vs) sm25).wipe vs1
        refine tg1 w0 w5 _ v1 s5 r5 _ fun σ6 st6 sb6 => ⟨wipe_same sb6 hj1, ?_⟩
        have s6 := st6 w5 s5 (Same.refl _)
        refine ek w0 w5 σ6 s6 _ fun kv w7 kd l7 ok7 r7 ekd => ev w0 w7 σ6 (s6.mono l7 ok7) _ fun vv w8 vd l8 ok8 r8 evd => ?_
        subst ekd evd
        have o8 := okUp (okUp o5 l7 ok7) l8 ok8
        obtain ⟨p1, p2, p3, es, p4, p5⟩ := o8
        have ekv : kv = kV (ks xs'[i])[j] := kD_inj (J := w7.I) r7
        subst ekv
        have hlen8 : es.length < sizeLine := by
          rw [p5.length]
          have h1 := dFold_len vd ((ks xs'[i]).take j) (dFold vd [] ((xs'.take i).flatMap ks))
          have h2 := dFold_len vd ((xs'.take i).flatMap ks) []
          have h3 : ((xs'.take i).flatMap ks).length + (ks xs'[i]).length ≤ (xs'.flatMap ks).length := by
            have e : (xs'.take (i + 1)).flatMap ks = (xs'.take i).flatMap ks ++ ks xs'[i] := by rw [take_succ_of hx, List.flatMap_append]; simp
            have e2 : xs'.flatMap ks = (xs'.take (i + 1)).flatMap ks ++ (xs'.drop (i + 1)).flatMap ks := by rw [← List.flatMap_append, List.take_append_drop]
            rw [e2, e, List.length_append, List.length_append]
            omega
          have h4 : ((ks xs'[i]).take j).length ≤ (ks xs'[i]).length := by rw [List.length_take]; omega
          have h5 : ([] : List (Key × D)).length = 0 := rfl
          exact Nat.lt_of_le_of_lt (show _ ≤ 100000 by omega) (by decide)
        refine ⟨_, .inl ⟨es, (ks xs'[i])[j], p4, rfl, hlen8, rfl⟩, w8.put Dl (.dK (putK es (ks xs'[i])[j] vv)), rfl, ((sm4.trans l5.I).trans l7.I).trans l8.I, Wd.le_put p1 hD, Wd.put_ok p2 p3 (by rw [p1.tp]; exact tpD) True.intro, p3, _, upd_same, ?_⟩
        have e : dFold vd (dFold vd [] ((xs'.take i).flatMap ks)) ((ks xs'[i]).take (j + 1)) = putD (dFold vd (dFold vd [] ((xs'.take i).flatMap ks)) ((ks xs'[i]).take j)) (ks xs'[i])[j] vd := by
          rw [take_succ_of hk, dFold_append]
          rfl
        rw [e]
        exact p5.put r8
      · have ej : j = ys'.length := by omega
        subst ej
        refine .inl ⟨Y1.stop w4 o4.2.1 sm4, w4, rfl, ?_⟩
        have e : dFold val [] ((xs'.take (i + 1)).flatMap ks) = dFold val (dFold val [] ((xs'.take i).flatMap ks)) ((ks xs'[i]).take ys'.length) := by
          rw [take_succ_of hx, List.flatMap_append, dFold_append, hlen, List.take_length]
          simp
        rw [e]
        exact o4
    · have e : i = xs'.length := by omega
      subst e
      obtain ⟨o1, o2, o3, es, o4, o5⟩ := okw
      rw [List.take_length] at o5
      refine .inl ⟨Y.stop w' o2 o1.I, gq (.ref Dl) (w'.fix Dl (.dK es)) _ (Wd.le_fix (l1.trans o1) (l1.dom Dl hD) o3) (Wd.fix_ok o2 o3 o4 (by rw [o1.tp]; exact tpD)) ?_ rfl⟩
      exact ⟨Dl, es, rfl, .inl upd_same, o5.keeps (.of_same (same_new o3))⟩⟩
end
end RF

set_option Elab.async false
set_option linter.all false
set_option maxRecDepth 100000
set_option maxHeartbeats 4000000
set_option autoImplicit false
namespace RF
open PySem L2

section
variable {K : PySem.W.Frag} {lk : Bool} {ρ : List Sl} {ta tb te tk tv : TE} {P : D → Prop} {g g1 : TG} {wi wi1 : TI} {d : D}
/-! ### sorted -/
theorem rc_sortedD {kvs : List (Key × D)} {ks : List Str} (h : kvs.map (·.1) = ks.map Sum.inr) (hl : ks.length < 64) (w : Wd) (ok : w.Ok) (v : V) (r : ∃ a es, v = .ref a ∧ Rd w.H a (.dK es) ∧ es.map (·.1) = kvs.map (·.1)) (Q : VK)
    (gq : Gets K w (fun x => x = .lst ((sortS ks).map D.str)) Q) : rSortedD [v] w.H Q := by
  obtain ⟨a, es, rfl, rd, ek⟩ := r
  refine ⟨a, es, ks, rfl, rd, by rw [ek, h], hl, fun ys p hp hs hn => ?_⟩
  rw [sortS_unique hp hs]
  exact gq.new (d := .lst ((sortS ks).map D.str)) ok hn True.intro ⟨p, _, rfl, .inl (.inl upd_same), RpL.of_strs _⟩ rfl
theorem eu_sortedD {kvs : List (Key × D)} {ks : List Str} (h : EvD K lk ta ρ (.dk kvs)) (hk : kvs.map (·.1) = ks.map Sum.inr) (hl : ks.length < 64) : EvD K lk (tCB (rSortedU K) (tCons ta tNil)) ρ (.lst ((sortS ks).map D.str)) := ev_cb1 (ea_cons h ea_nil) (rcr fun w vs ok _ r Q gq => by
  obtain ⟨v, e, r⟩ := ars_one r
  obtain ⟨a, es, e2, rd, r2⟩ := r
  rw [e]
  exact rc_sortedD hk hl w ok v ⟨a, es, e2, rd_same ok.sub rd, r2.keys⟩ Q gq)
theorem eu_sortedO {i : Nat} {kvs : List (Key × D)} {ks : List Str} (hi : ρ[i]? = some (.dk kvs)) (hk : kvs.map (·.1) = ks.map Sum.inr) (hl : ks.length < 64) : EvD K lk (tCB (rSortedU K) (tCons (tVar i) tNil)) ρ (.lst ((sortS ks).map D.str)) := fun w0 w σ s Q gq => by
  obtain ⟨a, ea, h0, hI, ht, es, hH, r⟩ := s.sl i _ hi
  exact ⟨.ref a, ea, .inr (rc_sortedD hk hl w s.ok (.ref a) ⟨a, es, rfl, .inl hH, r.keys⟩ Q gq)⟩
theorem eu_sortedS {ks : List Str} (h : EvD K lk ta ρ (.lst (ks.map D.str))) (hl : ks.length < 64) : EvD K lk (tCB (rSortedU K) (tCons ta tNil)) ρ (.lst ((sortS ks).map D.str)) := ev_cb1 (ea_cons h ea_nil) (rcl fun w vs ok _ r Q gq => by
  obtain ⟨v, e, r⟩ := ars_one r
  obtain ⟨a, us, e2, sq, r2⟩ := r
  rw [r2.strs] at sq
  refine ⟨a, ks, by rw [e, e2], sqLH ok sq, hl, fun ys p hp hs hn => ?_⟩
  rw [sortS_unique hp hs]
  exact gq.new (d := .lst ((sortS ks).map D.str)) ok hn True.intro ⟨p, _, rfl, .inl (.inl upd_same), RpL.of_strs _⟩ rfl)
/-! ### enumerate, zip -/
def iEnumU (K : PySem.W.Frag) (ta : TA) : TI := iOr (iEnT K ta) (iEnum K ta)
theorem pu_enum {X : Cx} {e : Expr} {ta : TA} {p pos tpos : Pos} {elts : List Expr} {kk : Nat} (hg : Gl X "enumerate") (hm : X.mg "enumerate" = none) (ha : PA X [e] ta) (hs : starEach [e] X.env = [(false, eval e X.env)] := by rfl) :
    PI X (.Tuple elts kk tpos) (.Call (.Name "enumerate" p) [e] [] pos) (iEnumU X.K ta) := pior (pi_enT hg hm ha hs) (pi_enum hg hm ha hs)
def enumD (xs : List D) : List D := xs.mapIdx fun i x => .tup [.int (i : Nat), x]
theorem enumD_len (xs : List D) : (enumD xs).length = xs.length := by unfold enumD; rw [List.length_mapIdx]
theorem enumD_get {xs : List D} {i : Nat} {x : D} (h : xs[i]? = some x) : (enumD xs)[i]? = some (.tup [.int (i : Nat), x]) := by unfold enumD; rw [List.getElem?_mapIdx, h]; rfl
theorem enumD_inv {xs : List D} {i : Nat} {y : D} (h : (enumD xs)[i]? = some y) : ∃ x, xs[i]? = some x ∧ y = .tup [.int (i : Nat), x] := by
  have hl : i < xs.length := by
    have := (List.getElem?_eq_some_iff.mp h).1
    rw [enumD_len] at this
    exact this
  have hx : xs[i]? = some xs[i] := List.getElem?_eq_getElem hl
  rw [enumD_get hx] at h
  exact ⟨_, hx, (Option.some.inj h).symm⟩
theorem new_pair {w : Wd} (ok : w.Ok) {T : Addr} {x y : V} {a b : D} (h : w.H T = none) (ra : Rp K w.I a x) (rb : Rp K w.I b y) : ∃ w2 : Wd, w2.H = upd w.H T (.tup [x, y]) ∧ w.le w2 ∧ w2.Ok ∧ Rp K w2.I (.tup [a, b]) (.ref T) := by
  have sm : Same w.I (upd w.I T (.tup [x, y])) := same_new (notI ok h)
  exact ⟨w.new T (.tup [x, y]), rfl, Wd.new_le ok h, Wd.new_ok ok h True.intro, T, _, rfl, .inl (.inl upd_same), x, [y], rfl, ra.mono sm, y, [], rfl, rb.mono sm, rfl⟩
theorem it_enumT {xs : List D} (h : EvD K lk te ρ (.tup xs)) : ItS K lk (iEnumU K (tCons te tNil)) ρ (fun ys => ys = enumD xs) := itl fun w0 w σ s R k => (ea_cons h ea_nil) w0 w σ s _ fun vs w1 as l1 ok1 r1 e => by
  subst e
  obtain ⟨v, e, r⟩ := ars_one r1
  obtain ⟨a, us, e2, sq, r⟩ := r
  refine ⟨a, us, by rw [e, e2], sqTH ok1 sq, k _ w1 _ l1 ok1 rfl ⟨fun i w' ok' sm hi => ?_, fun i w' v' H' ok' sm y x hx => ?_, fun w' ok' sm => ?_⟩⟩
  · have hi' : i < us.length := by rw [r.length, ← enumD_len]; exact hi
    exact ⟨us, us[i], sqTH ok' (sqT_keeps (.of_same sm) sq), List.getElem?_eq_getElem hi'⟩
  · obtain ⟨T, z, rfl, hT, rfl, f⟩ := y
    obtain ⟨x0, hx0, rfl⟩ := enumD_inv hx
    obtain ⟨u, hu, ru⟩ := r.get hx0
    have ez := f us (sqTH ok' (sqT_keeps (.of_same sm) sq))
    rw [hu] at ez
    cases ez
    exact new_pair ok' hT rfl (ru.mono sm)
  · exact ⟨us, sqTH ok' (sqT_keeps (.of_same sm) sq), by rw [enumD_len, r.length]⟩
theorem it_enumL {xs : List D} (h : EvD K lk te ρ (.lst xs)) : ItS K lk (iEnumU K (tCons te tNil)) ρ (fun ys => ys = enumD xs) := itr fun w0 w σ s R k => (ea_cons h ea_nil) w0 w σ s _ fun vs w1 as l1 ok1 r1 e => by
  subst e
  obtain ⟨v, e, r⟩ := ars_one r1
  obtain ⟨a, us, e2, sq, r⟩ := r
  refine ⟨a, us, by rw [e, e2], sqLH ok1 sq, k _ w1 _ l1 ok1 rfl ⟨fun i w' ok' sm hi => ?_, fun i w' v' H' ok' sm y x hx => ?_, fun w' ok' sm => ?_⟩⟩
  · have hi' : i < us.length := by rw [r.length, ← enumD_len]; exact hi
    exact ⟨us, us[i], sqLH ok' (sqL_keeps (.of_same sm) sq), List.getElem?_eq_getElem hi'⟩
  · obtain ⟨T, z, rfl, hT, rfl, f⟩ := y
    obtain ⟨x0, hx0, rfl⟩ := enumD_inv hx
    obtain ⟨u, hu, ru⟩ := r.get hx0
    have ez := f us (sqLH ok' (sqL_keeps (.of_same sm) sq))
    rw [hu] at ez
    cases ez
    exact new_pair ok' hT rfl (ru.mono sm)
  · exact ⟨us, sqLH ok' (sqL_keeps (.of_same sm) sq), by rw [enumD_len, r.length]; exact Nat.le_refl _⟩
def iZipU (K : PySem.W.Frag) (ta : TA) : TI := iOr (RZ.iZipA K ta) (iZipM K ta)
theorem pu_zip {X : Cx} {e e2 : Expr} {ta : TA} {p pos tpos : Pos} {elts : List Expr} {kk : Nat} (hg : Gl X "zip") (hm : X.mg "zip" = none) (ha : PA X [e, e2] ta)
    (hs : starEach [e, e2] X.env = (false, eval e X.env) :: starEach [e2] X.env := by rfl) (hpl : (backTo pos (starEach [e2] X.env)).any (·.1) = false := by rfl) :
    PI X (.Tuple elts kk tpos) (.Call (.Name "zip" p) [e, e2] [] pos) (iZipU X.K ta) := pior (RZ.pi_zipA hg hm ha hs hpl) (pi_zipM hg hm ha hs hpl)
def zipD (xs ys : List D) : List D := (xs.zip ys).map fun p => .tup [p.1, p.2]
theorem zipD_inv {xs ys : List D} {i : Nat} {z : D} (h : (zipD xs ys)[i]? = some z) : ∃ x y, xs[i]? = some x ∧ ys[i]? = some y ∧ z = .tup [x, y] := by
  unfold zipD at h
  rw [List.getElem?_map] at h
  cases e : (xs.zip ys)[i]? with
  | none => rw [e] at h; cases h
  | some p =>
    rw [e] at h
    obtain ⟨h1, h2⟩ := List.getElem?_zip_eq_some.mp e
    exact ⟨p.1, p.2, h1, h2, (Option.some.inj h).symm⟩
theorem zipD_len (xs ys : List D) : (zipD xs ys).length = min xs.length ys.length := by unfold zipD; rw [List.length_map, List.length_zip]
theorem it_zipT {xs ys : List D} (h : EvD K lk te ρ (.tup xs)) (h' : EvD K lk tb ρ (.tup ys)) : ItS K lk (iZipU K (tCons te (tCons tb tNil))) ρ (fun zs => zs = zipD xs ys) := itl fun w0 w σ s R k => by
  unfold RZ.iZipA
  refine (ea_cons h (ea_cons h' ea_nil)) w0 w σ s _ fun vs w1 as l1 ok1 r1 e => ?_
  subst e
  obtain ⟨v, u, e, rv, ru⟩ := ars_two r1
  obtain ⟨a, us, e1, sq1, q1⟩ := rv
  obtain ⟨b, ws, e2, sq2, q2⟩ := ru
  refine ⟨a, b, us, ws, by rw [e, e1, e2], .inr ⟨sqTH ok1 sq1, sqTH ok1 sq2, k _ w1 _ l1 ok1 rfl ⟨fun i w' ok' sm hi => ?_, fun i w' v' H' ok' sm y x hx => ?_, fun w' ok' sm => ?_⟩⟩⟩
  · rw [zipD_len] at hi
    have h1 : i < us.length := by rw [q1.length]; omega
    have h2 : i < ws.length := by rw [q2.length]; omega
    exact ⟨us, ws, us[i], ws[i], sqTH ok' (sqT_keeps (.of_same sm) sq1), sqTH ok' (sqT_keeps (.of_same sm) sq2), List.getElem?_eq_getElem h1, List.getElem?_eq_getElem h2⟩
  · obtain ⟨T, z1, z2, rfl, hT, rfl, f1, f2⟩ := y
    obtain ⟨x1, x2, hx1, hx2, rfl⟩ := zipD_inv hx
    obtain ⟨u1, hu1, ru1⟩ := q1.get hx1
    obtain ⟨u2, hu2, ru2⟩ := q2.get hx2
    have ez1 := f1 us (sqTH ok' (sqT_keeps (.of_same sm) sq1))
    have ez2 := f2 ws (sqTH ok' (sqT_keeps (.of_same sm) sq2))
    rw [hu1] at ez1
    rw [hu2] at ez2
    cases ez1
    cases ez2
    exact new_pair ok' hT (ru1.mono sm) (ru2.mono sm)
  · refine ⟨us, ws, sqTH ok' (sqT_keeps (.of_same sm) sq1), sqTH ok' (sqT_keeps (.of_same sm) sq2), ?_⟩
    rw [zipD_len, q1.length, q2.length]
    omega
theorem it_zipL {xs ys : List D} (h : EvD K lk te ρ (.lst xs)) (h' : EvD K lk tb ρ (.lst ys)) : ItS K lk (iZipU K (tCons te (tCons tb tNil))) ρ (fun zs => zs = zipD xs ys) := itl fun w0 w σ s R k => by
  unfold RZ.iZipA
  refine (ea_cons h (ea_cons h' ea_nil)) w0 w σ s _ fun vs w1 as l1 ok1 r1 e => ?_
  subst e
  obtain ⟨v, u, e, rv, ru⟩ := ars_two r1
  obtain ⟨a, us, e1, sq1, q1⟩ := rv
  obtain ⟨b, ws, e2, sq2, q2⟩ := ru
  refine ⟨a, b, us, ws, by rw [e, e1, e2], .inl ⟨sqLH ok1 sq1, sqLH ok1 sq2, k _ w1 _ l1 ok1 rfl ⟨fun i w' ok' sm hi => ?_, fun i w' v' H' ok' sm y x hx => ?_, fun w' ok' sm => ?_⟩⟩⟩
  · rw [zipD_len] at hi
    have h1 : i < us.length := by rw [q1.length]; omega
    have h2 : i < ws.length := by rw [q2.length]; omega
    exact ⟨us, ws, us[i], ws[i], sqLH ok' (sqL_keeps (.of_same sm) sq1), sqLH ok' (sqL_keeps (.of_same sm) sq2), List.getElem?_eq_getElem h1, List.getElem?_eq_getElem h2⟩
  · obtain ⟨T, z1, z2, rfl, hT, rfl, f1, f2⟩ := y
    obtain ⟨x1, x2, hx1, hx2, rfl⟩ := zipD_inv hx
    obtain ⟨u1, hu1, ru1⟩ := q1.get hx1
    obtain ⟨u2, hu2, ru2⟩ := q2.get hx2
    have ez1 := f1 us (sqLH ok' (sqL_keeps (.of_same sm) sq1))
    have ez2 := f2 ws (sqLH ok' (sqL_keeps (.of_same sm) sq2))
    rw [hu1] at ez1
    rw [hu2] at ez2
    cases ez1
    cases ez2
    exact new_pair ok' hT (ru1.mono sm) (ru2.mono sm)
  · refine ⟨us, ws, sqLH ok' (sqL_keeps (.of_same sm) sq1), sqLH ok' (sqL_keeps (.of_same sm) sq2), ?_⟩
    rw [zipD_len, q1.length, q2.length]
    omega
theorem it_zipM {xs ys : List D} (h : EvD K lk te ρ (.lst xs)) (h' : EvD K lk tb ρ (.tup ys)) : ItS K lk (iZipU K (tCons te (tCons tb tNil))) ρ (fun zs => zs = zipD xs ys) := itr fun w0 w σ s R k => by
  unfold iZipM
  refine (ea_cons h (ea_cons h' ea_nil)) w0 w σ s _ fun vs w1 as l1 ok1 r1 e => ?_
  subst e
  obtain ⟨v, u, e, rv, ru⟩ := ars_two r1
  obtain ⟨a, us, e1, sq1, q1⟩ := rv
  obtain ⟨b, ws, e2, sq2, q2⟩ := ru
  have s1 : ∀ {w' : Wd}, w'.Ok → Same w1.I w'.I → SqL K w'.H a us := fun ok sm => sqLH ok (sqL_keeps (.of_same sm) sq1)
  have s2 : ∀ {w' : Wd}, w'.Ok → Same w1.I w'.I → SqT K w'.H b ws := fun ok sm => sqTH ok (sqT_keeps (.of_same sm) sq2)
  have l1' := q1.length
  have l2' := q2.length
  refine ⟨a, b, us, ws, by rw [e, e1, e2], s1 ok1 (Same.refl _), s2 ok1 (Same.refl _), k _ w1 _ l1 ok1 rfl ⟨fun i w' ok' sm hi => ?_, fun i w' v' H' ok' sm y x hx => ?_, fun w' ok' sm => ?_⟩⟩
  · rw [zipD_len] at hi
    exact ⟨us, ws, us[i], ws[i], s1 ok' sm, s2 ok' sm, List.getElem?_eq_getElem (by omega), List.getElem?_eq_getElem (by omega)⟩
  · obtain ⟨T, z1, z2, rfl, hT, rfl, f1, f2⟩ := y
    obtain ⟨x1, x2, hx1, hx2, rfl⟩ := zipD_inv hx
    obtain ⟨u1, hu1, ru1⟩ := q1.get hx1
    obtain ⟨u2, hu2, ru2⟩ := q2.get hx2
    have ez1 := f1 us (s1 ok' sm)
    have ez2 := f2 ws (s2 ok' sm)
    rw [hu1] at ez1
    rw [hu2] at ez2
    cases ez1
    cases ez2
    exact new_pair ok' hT (ru1.mono sm) (ru2.mono sm)
  · refine ⟨us, ws, s1 ok' sm, s2 ok' sm, ?_⟩
    rw [zipD_len]
    omega
/-! ### isinstance -/
def rIsiU (K : PySem.W.Frag) : List V → Hp → VK → Prop := cOr (rIsi K) (rIsiT K)
theorem cu_isi {X : Cx} : CallR X (.builtin "isinstance") (rIsiU X.K) := cr_or call_isi call_isiT
def noDt : D → Bool
  | .dt _ => false
  | .mref _ => false
  | .fk _ => false
  | .ft _ => false
  | _ => true
def tyD : D → String
  | .non => "NoneType"
  | .bl _ => "bool"
  | .int _ => "int"
  | .str _ => "str"
  | .lst _ => "list"
  | .tup _ => "tuple"
  | .tk _ => "tuple"
  | .tf _ => "tuple"
  | .mref _ => ""
  | .li _ => "list"
  | .dk _ => "dict"
  | .dt _ => "dict"
  | .fk _ => "dict"
  | .ft _ => "dict"
theorem ty_of {w : Wd} (ok : w.Ok) {v : V} (r : Rp K w.I d v) (hd : noDt d = true) : TyX K w.H v (.type (tyD d)) := by
  cases d with
  | non => rw [show v = .non from r]; exact .base .non
  | bl b => rw [show v = .bl b from r]; exact .base (.bl b)
  | int b => rw [show v = .int b from r]; exact .base (.int b)
  | str b => rw [show v = .str b from r]; exact .base (.str b)
  | lst xs =>
    obtain ⟨a, vs, e, sq, _⟩ := r
    rw [e]
    rcases sqLH ok sq with (h | ⟨o, h⟩) | ⟨o, its, n, h, c, _⟩
    · exact .base (.lst h)
    · exact .base (.frz h)
    · exact .kList h c
  | tup xs =>
    obtain ⟨a, vs, e, sq, _⟩ := r
    rw [e]
    rcases sqTH ok sq with (h | ⟨o, h⟩) | ⟨o, its, n, h, c, _⟩
    · exact .base (.tup h)
    · exact .fTuple h
    · exact .kTuple h c
  | tk ks =>
    obtain ⟨a, e, h⟩ := r
    rw [e]
    exact .base (.tup (ok.sub _ _ h))
  | tf ss =>
    obtain ⟨a, o, e, h, _⟩ := r
    rw [e]
    exact .fTuple (ok.sub _ _ h)
  | li ns =>
    obtain ⟨a, e, rd⟩ := r
    rw [e]
    rcases rd_same ok.sub rd with h | ⟨o, h⟩
    · exact .base (.lst h)
    · exact .base (.frz h)
  | dk xs =>
    obtain ⟨a, vs, e, rd, _⟩ := r
    rw [e]
    rcases rd_same ok.sub rd with h | ⟨o, h⟩
    · exact .base (.dK h)
    · exact .fDict h
  | dt xs => cases hd
  | fk xs => cases hd
  | ft xs => cases hd
  | mref a => cases hd
theorem ev_isi {c : String} {b : Bool} (h : EvD K lk ta ρ d) (hd : noDt d = true) (hb : kitB (tyD d) c = some b) : EvD K lk (tCB (rIsiU K) (tCons ta (tCons (tC (.ty c)) tNil))) ρ (.bl b) := fun w0 w σ s Q g =>
  h w0 w σ s _ fun v w1 x l1 ok1 r1 e => by
    subst e
    exact .inl ⟨v, .ty c, _, _, b, rfl, .ty c, ty_of ok1 r1 hd, kit_ty hb, (g.up l1).here (d := .bl b) ok1 rfl rfl⟩
theorem ev_isi2 {c e : String} {b1 b2 : Bool} (h : EvD K lk ta ρ d) (hd : noDt d = true) (h1 : kitB (tyD d) c = some b1) (h2 : kitB (tyD d) e = some b2) : EvD K lk (tCB (rIsiU K) (tCons ta (tCons (tTupU (tCons (tC (.ty c)) (tCons (tC (.ty e)) tNil))) tNil))) ρ (.bl (b1 || b2)) := fun w0 w σ s Q g =>
  h w0 w σ s _ fun v w1 x l1 ok1 r1 ed => .inl ⟨by show 2 ≤ sizeLine; decide, fun p hp => by
    subst ed
    have l2 := Wd.new_le (o := .tup [.ty c, .ty e]) ok1 hp
    have ok2 := Wd.new_ok (o := .tup [.ty c, .ty e]) ok1 hp True.intro
    refine .inr ⟨v, p, [.ty c, .ty e], _, [.type c, .type e], b1 || b2, rfl, upd_same, .cons (.ty c) (.cons (.ty e) .nil), ty_of ok2 (r1.mono l2.I) hd, ?_, ((g.up l1).up l2).here (d := .bl _) ok2 rfl rfl⟩
    refine kitAny_cons (kit_ty h1) (fun z => kitAny_cons (kit_ty h2) (fun z2 => ?_) fun z2 => ?_) fun z => by rw [z]; rfl
    · rw [z, z2]; exact kitAny_nil
    · rw [z, z2]; rfl⟩
end
end RF

set_option Elab.async false
set_option linter.all false
set_option maxRecDepth 100000
set_option maxHeartbeats 4000000
set_option autoImplicit false
namespace RF
open PySem L2

def rListU (K : PySem.W.Frag) : List V → Hp → VK → Prop := rListSq K
theorem cu_list {X : Cx} (_ : X.calm = true) : CallR X (.type "list") (rListU X.K) := call_list_of
def rInsert : V → List V → Hp → VK → Prop := fun x vs H Q => ∃ (l : Addr) (xs : List V) (i : Int) (y : V), x = .ref l ∧ vs = [.int i, y] ∧ H l = some (.lst xs) ∧ xs.length < sizeLine ∧ 0 ≤ i ∧ i < 2 ^ 63 ∧
    Q .non (upd H l (.lst (xs.take i.toNat ++ [y] ++ xs.drop i.toNat)))
section
variable {K : PySem.W.Frag} {lk : Bool} {ρ : List Sl} {ta tb te ti : TE} {P : D → Prop} {u : TS} {p : Po} {d : D}
/-! ### lists of the frame's own: items, lengths, puts, inserts -/
theorem eu_ixO {i : Nat} {xs : List D} {j : Int} (hi : ρ[i]? = some (.lst xs)) (hb : EvD K lk tb ρ (.int j)) (h : atI xs j = some d) : EvD K lk (rIxU K (tVar i) tb) ρ d := ev_r (ev_l fun w0 w σ s Q g => by
  obtain ⟨a, ea, _⟩ := s.sl i _ hi
  refine ⟨.ref a, ea, hb w0 w σ s _ fun y w2 x2 l2 ok2 r2 e2 => ?_⟩
  subst e2
  obtain ⟨a', ea', h0, hI, ht, vs, hH, r⟩ := (s.mono l2 ok2).sl i _ hi
  rw [ea] at ea'
  cases ea'
  obtain ⟨z, h1, h2⟩ := at_rp r h
  exact ⟨a, vs, j, z, rfl, r2, .inl (.inl hH), h1, (g.up l2).here ok2 h2 rfl⟩)
theorem eu_lenO {i : Nat} {xs : List D} (hi : ρ[i]? = some (.lst xs)) : EvD K lk (tCB (rLenU K) (tCons (tVar i) tNil)) ρ (.int xs.length) := fun w0 w σ s Q g => by
  obtain ⟨a, ea, h0, hI, ht, vs, hH, r⟩ := s.sl i _ hi
  refine ⟨.ref a, ea, .inl ⟨a, vs, rfl, .inl (.inl (.inl hH)), ?_⟩⟩
  rw [r.length]
  exact g.here (d := .int xs.length) s.ok rfl rfl
theorem st_putL {i k : Nat} {xs : List D} {j : Int} (hi : ρ[i]? = some (.lst xs)) (hb : EvD K lk tb ρ (.int j)) (hj : ixN xs.length j = some k) (h : EvS K lk te ρ P) (q : ∀ d, P d → p.nx (ρ.set i (.lst (xs.set k d)))) : StS K lk (sPutU (tVar i) tb te) ρ p := fun w0 w σ E s f => .inl
  (h w0 w σ s _ fun v w1 d l1 ok1 r1 c => by
    have s1 := s.mono l1 ok1
    obtain ⟨a, ea, _⟩ := s1.sl i _ hi
    refine ⟨.ref a, ea, hb w0 w1 σ s1 _ fun y w2 x2 l2 ok2 r2 e2 => ?_⟩
    subst e2
    have s2 := s1.mono l2 ok2
    obtain ⟨a', ea', h0, hI, ht, vs, hH, r⟩ := s2.sl i _ hi
    rw [ea] at ea'
    cases ea'
    refine ⟨a, vs, j, k, rfl, r2, hH, by rw [r.length]; exact hj, ?_⟩
    exact f.nx σ (w2.put a (.lst (vs.set k v))) _ (s2.own hi rfl ea (.lst (vs.set k v)) True.intro (own_list ok2 h0 hI ht (RpL.set (r1.mono l2.I) k r))) (q d c))
theorem st_putLq {i k : Nat} {xs : List D} {j : Int} (hi : ρ[i]? = some (.lst xs)) (hb : EvD K lk tb ρ (.int j)) (hj : ixN xs.length j = some k) (h : EvS K lk te ρ P) (q : ∀ d, P d → StS K lk u (ρ.set i (.lst (xs.set k d))) p) : StS K lk (tSeq (sPutU (tVar i) tb te) u) ρ p :=
  st_seq (fun ρ' => ∃ d, P d ∧ ρ' = ρ.set i (.lst (xs.set k d))) (st_putL hi hb hj h fun d c => ⟨d, c, rfl⟩) fun ρ' ⟨d, c, e⟩ => by rw [e]; exact q d c
/-- xs.insert(i, e) -/
theorem st_ins {i : Nat} {xs : List D} {A : Int → Prop} {B : D → Prop} (hi : ρ[i]? = some (.lst xs)) (hb : EvS K lk tb ρ (fun d => ∃ j, d = .int j ∧ A j)) (hA : ∀ j, A j → 0 ≤ j ∧ j < 2 ^ 60) (h : EvS K lk te ρ B) (hl : xs.length < 100000)
    (k : ∀ j d, A j → B d → p.nx (ρ.set i (.lst (xs.take j.toNat ++ [d] ++ xs.drop j.toNat)))) : StS K lk (tDrop (tBM K "list" rInsert (tVar i) (tCons tb (tCons te tNil)))) ρ p := fun w0 w σ E s f => by
  obtain ⟨a, ea, h0, hI, ht, vs, hH, r⟩ := s.sl i _ hi
  refine ⟨.ref a, ea, Or.inl ⟨rfl, vs, .inl (.inl hH)⟩, hb w0 w σ s _ fun v w1 d l1 ok1 r1 c => h w0 w1 σ (s.mono l1 ok1) _ fun v2 w2 d2 l2 ok2 r2 c2 => ?_⟩
  have s1 := (s.mono l1 ok1).mono l2 ok2
  obtain ⟨a', ea', h0', hI', ht', vs', hH', r'⟩ := s1.sl i _ hi
  rw [ea] at ea'
  cases ea'
  obtain ⟨j, rfl, aj⟩ := c
  obtain ⟨j0, j1⟩ := hA j aj
  have ev : v = .int j := r1
  subst ev
  refine ⟨a, vs', j, v2, rfl, rfl, hH', by rw [r'.length]; exact Nat.lt_trans hl (by decide), j0, Int.lt_trans j1 (by decide), ?_⟩
  exact f.nx σ (w2.put a (.lst (vs'.take j.toNat ++ [v2] ++ vs'.drop j.toNat))) _ (s1.own hi rfl ea _ True.intro (own_list ok2 h0' hI' ht' (((r'.take _).append (.one r2)).append (r'.drop _)))) (k j d2 aj c2)
/-- a slot holds a thing of the frame's own that no other slot holds -/
theorem Sr.hold {w0 w : Wd} {σ : St} (h : Sr K lk w0 w σ ρ) (i : Nat) {a : Addr} {t : Sl} (hn : OwnAt K w0 w t a) (hap : ∀ (m : Nat) (s : Sl), ρ[m]? = some s → isOwn s = true → σ[m]? ≠ some (some (.ref a))) : Sr K lk w0 w (σ.set i (some (.ref a))) (ρ.set i t) := by
  refine ⟨h.lk, h.le, h.ok, by rw [List.length_set, List.length_set]; exact h.len, fun j s' e => ?_, fun j k s' t' b e1 e2 o1 o2 f1 f2 => ?_⟩
  · by_cases z : i = j
    · subst z
      have hl : i < ρ.length := by
        have := (List.getElem?_eq_some_iff.mp e).1
        rw [List.length_set] at this
        exact this
      rw [List.getElem?_set_self hl] at e
      cases e
      exact (SlOk.own hn.own).mpr ⟨a, by rw [List.getElem?_set_self (by rw [h.len]; exact hl)], hn⟩
    · rw [List.getElem?_set_ne z] at e ⊢
      exact h.sl j s' e
  · have other : ∀ {m : Nat} {r : Sl}, i ≠ m → (ρ.set i t)[m]? = some r → isOwn r = true → (σ.set i (some (.ref a)))[m]? = some (some (.ref b)) → b ≠ a ∧ ρ[m]? = some r ∧ σ[m]? = some (some (.ref b)) := fun {m r} z e orr f => by
      rw [List.getElem?_set_ne z] at e f
      exact ⟨fun y => hap m r e orr (by rw [f, y]), e, f⟩
    have self : ∀ {m : Nat} {r : Sl}, i = m → (ρ.set i t)[m]? = some r → (σ.set i (some (.ref a)))[m]? = some (some (.ref b)) → b = a := fun {m r} z e f => by
      subst z
      have hl : i < ρ.length := by
        have := (List.getElem?_eq_some_iff.mp e).1
        rw [List.length_set] at this
        exact this
      rw [List.getElem?_set_self (by rw [h.len]; exact hl)] at f
      cases f
      rfl
    by_cases zj : i = j
    · by_cases zk : i = k
      · exact zj.symm.trans zk
      · exact absurd (self zj e1 f1) (other zk e2 o2 f2).1
    · by_cases zk : i = k
      · exact absurd (self zk e2 f2) (other zj e1 o1 f1).1
      · obtain ⟨_, g1, k1⟩ := other zj e1 o1 f1
        obtain ⟨_, g2, k2⟩ := other zk e2 o2 f2
        exact h.ap j k s' t' b g1 g2 o1 o2 k1 k2
theorem Sr.fresh_ap {w0 w : Wd} {σ : St} (s : Sr K lk w0 w σ ρ) {a : Addr} (ha : w.H a = none) (m : Nat) (t : Sl) (hm : ρ[m]? = some t) (ho : isOwn t = true) : σ[m]? ≠ some (some (.ref a)) := fun z => by
  obtain ⟨b', eb, ob⟩ := (SlOk.own ho).mp (s.sl m t hm)
  rw [z] at eb
  cases eb
  exact ob.there ha
/-- a world that has one more thing of nobody's -/
theorem Sr.stray {w0 w : Wd} {σ : St} (s : Sr K lk w0 w σ ρ) {a : Addr} {o : HO} (hp : plainP o) (ha : w.H a = none) : Sr K lk w0 (w.put a o) σ ρ := by
  have l : w.le (w.put a o) := Wd.le_put (.refl w) ha
  exact s.mono l (Wd.put_ok s.ok (notI s.ok ha) (not_tape s.ok ha) hp)
/-- x, y = [], e -/
theorem st_parO {i j : Nat} (h : EvD K lk te ρ d) (k : p.nx ((ρ.set i (.lst [])).set j (.dat d))) : StS K lk (tPar i j (tCons (tLst tNil) (tCons te tNil))) ρ p := fun w0 w σ E s f =>
  ⟨by show 0 ≤ sizeLine; decide, fun a ha => by
    have sx := s.stray (o := .lst []) True.intro ha
    refine h w0 _ σ sx _ fun v w1 x l1 ok1 r1 e => ⟨.ref a, v, rfl, ?_⟩
    subst e
    have hI1 : w1.I a = none := l1.fr a (notI s.ok ha) (by show upd w.H a _ a ≠ none; rw [upd_same]; exact fun z => nomatch z)
    have hH1 : w1.H a = some (.lst []) := l1.H a _ upd_same (not_tape s.ok ha)
    have ht1 : w1.tp ≠ some a := by rw [l1.tp]; exact not_tape s.ok ha
    exact f.nx _ w1 _ (((sx.mono l1 ok1).hold i (t := .lst []) ⟨s.le.dom a ha, hI1, ht1, [], hH1, rfl⟩ (s.fresh_ap ha)).set j r1) k⟩
theorem st_parOq {i j : Nat} (h : EvD K lk te ρ d) (k : StS K lk u ((ρ.set i (.lst [])).set j (.dat d)) p) : StS K lk (tSeq (tPar i j (tCons (tLst tNil) (tCons te tNil))) u) ρ p :=
  st_seq (fun ρ' => ρ' = (ρ.set i (.lst [])).set j (.dat d)) (st_parO h rfl) fun ρ' e => by rw [e]; exact k
/-- x, y = e, [] -/
theorem st_parL {i j : Nat} (h : EvD K lk te ρ d) (k : p.nx ((ρ.set i (.dat d)).set j (.lst []))) : StS K lk (tPar i j (tCons te (tCons (tLst tNil) tNil))) ρ p := fun w0 w σ E s f =>
  h w0 w σ s _ fun v w1 x l1 ok1 r1 e => ⟨by show 0 ≤ sizeLine; decide, fun a ha => ⟨v, .ref a, rfl, by
    subst e
    have s1 := (s.mono l1 ok1).set i r1
    exact f.nx _ _ _ (s1.grow j (o := .lst []) (t := .lst []) True.intro ha ⟨s1.le.dom a ha, notI ok1 ha, not_tape ok1 ha, [], upd_same, rfl⟩) k⟩⟩
theorem st_parLq {i j : Nat} (h : EvD K lk te ρ d) (k : StS K lk u ((ρ.set i (.dat d)).set j (.lst [])) p) : StS K lk (tSeq (tPar i j (tCons te (tCons (tLst tNil) tNil))) u) ρ p :=
  st_seq (fun ρ' => ρ' = (ρ.set i (.dat d)).set j (.lst [])) (st_parL h rfl) fun ρ' e => by rw [e]; exact k
end
/-! ### the tape -/
section
variable {K : PySem.W.Frag}
/-- the world in which the tape is the frame's own: seen from a base that does not know it -/
def Wd.shut (w : Wd) (a : Addr) : Wd := { I := w.I, H := fun b => if b = a then none else w.H b, tp := none, lk := w.lk }
def Wd.bare (w : Wd) : Wd := { w with tp := none }
def Wd.taped (w : Wd) (a : Addr) : Wd := { w with tp := some a }
def tapeD (ns : List Int) (p c : Int) : List D := [.li ns, .int p, .int c]
theorem shut_le {w : Wd} {a : Addr} : (w.shut a).le w.bare where
  tp := rfl
  lk := rfl
  I := fun _ _ h => h
  H := fun b o e _ => by
    have e : (if b = a then none else w.H b) = some o := e
    by_cases z : b = a
    · rw [if_pos z] at e; cases e
    · rw [if_neg z] at e; exact e
  fr := fun _ h _ => h
  dom := fun b e => by
    show (if b = a then none else w.H b) = none
    by_cases z : b = a
    · rw [if_pos z]
    · rw [if_neg z]; exact e
theorem bare_ok {w : Wd} (ok : w.Ok) : w.bare.Ok where
  sub := ok.sub
  tape := fun a e => by cases (show (none : Option Addr) = some a from e)
  nolk := ok.nolk
  tups := ok.tups
/-- the tape is opened -/
theorem open_tape {w : Wd} {a : Addr} (ok : w.Ok) (ht : w.tp = some a) : ∃ ns p c, 0 ≤ p ∧ ns.length ≤ 1000 ∧ OwnAt K (w.shut a) w.bare (.lst (tapeD ns p c)) a := by
  obtain ⟨hI, b, p, c, ns, hH, rd, h0, hl⟩ := ok.tape a ht
  refine ⟨ns, p, c, h0, hl, ?_, hI, (fun z => by cases (show (none : Option Addr) = some a from z)), [.ref b, .int p, .int c], hH, ?_⟩
  · show (if a = a then none else w.H a) = none
    rw [if_pos rfl]
  · exact ⟨_, _, rfl, ⟨b, rfl, rd⟩, _, _, rfl, rfl, _, _, rfl, rfl, rfl⟩
/-- .. and shut again -/
theorem shut_tape {w w' : Wd} {a : Addr} {ns : List Int} {p c : Int} (ok : w.Ok) (ht : w.tp = some a) (l : (w.shut a).le w') (ok' : w'.Ok) (h : OwnAt K (w.shut a) w' (.lst (tapeD ns p c)) a) (h0 : 0 ≤ p) (hl : ns.length ≤ 1000) : w.le (w'.taped a) ∧ (w'.taped a).Ok := by
  obtain ⟨_, hI, _, vs, hH, r⟩ := h
  obtain ⟨v1, r1, e1, q1, v2, r2, e2, q2, v3, r3, e3, q3, e4⟩ := r
  subst e1 e2 e3
  rw [show r3 = [] from e4, show v2 = .int p from q2, show v3 = .int c from q3] at hH
  obtain ⟨b, e5, rd⟩ := q1
  rw [e5] at hH
  refine ⟨⟨ht.symm ▸ rfl, l.lk, l.I, fun x o e n => ?_, fun x e n => ?_, fun x e => ?_⟩, ⟨ok'.sub, fun x e => ?_, ok'.nolk, ok'.tups⟩⟩
  · have nx : x ≠ a := fun z => n (by rw [ht, z])
    refine l.H x o ?_ (fun z => by cases (show (none : Option Addr) = some x from z))
    show (if x = a then none else w.H x) = some o
    rw [if_neg nx]
    exact e
  · by_cases z : x = a
    · rw [z]; exact hI
    · refine l.fr x e ?_
      show (if x = a then none else w.H x) ≠ none
      rw [if_neg z]
      exact n
  · by_cases z : x = a
    · have e : w'.H x = none := e
      rw [z, hH] at e
      cases e
    · have q := l.dom x e
      have q : (if x = a then none else w.H x) = none := q
      rw [if_neg z] at q
      exact q
  · have e : some a = some x := e
    cases e
    exact ⟨hI, b, p, c, ns, hH, rd, h0, hl⟩
end
end RF

set_option Elab.async false
set_option linter.all false
set_option maxRecDepth 100000
set_option maxHeartbeats 4000000
set_option autoImplicit false
namespace RF
open PySem L2

/-! ### _law_draw, by what the slots and the heap hold -/
section
variable {K : PySem.W.Frag} {σ : St} {H : Hp} {ta tb te : TE} {i j : Int} {v u : V} {t s : TS} {E : Ends} {tt tu : TT}
theorem mul_ok {i j : Int} (a b : Nat) (ha : i.natAbs < 2 ^ a) (hb : j.natAbs < 2 ^ b) (h0 : 0 < a) (h1 : 0 < b) (h : a + b ≤ 1000000) : IntMulOk i j := (wide_mul ha hb h0 h1 h).ok
theorem atI_nat {α : Type} {xs : List α} {i : Nat} {x : α} (h : xs[i]? = some x) : atI xs (i : Int) = some x := by
  have hl := (List.getElem?_eq_some_iff.mp h).1
  unfold atI ixN
  rw [if_pos (by omega), if_pos (by omega)]
  exact h
def Pv (te : TE) (σ : St) (H : Hp) (v : V) : Prop := ∀ Q : VK, Q v H → te σ H Q
def Pb (tt : TT) (σ : St) (H : Hp) (b : Bool) : Prop := ∀ Q : Bool → Hp → Prop, Q b H → tt σ H Q
theorem pv_v {n : Nat} (h : σ[n]? = some (some v)) : Pv (tVar n) σ H v := fun Q q => ⟨v, h, q⟩
theorem pv_c : Pv (tC v) σ H v := fun Q q => q
theorem pv_op {r : R2} {x y z : V} (ha : Pv ta σ H x) (hb : Pv tb σ H y) (h : ∀ Q : VK, Q z H → r x y H Q) : Pv (tOp r ta tb) σ H z := fun Q q => ha _ (hb _ (h Q q))
theorem pv_add (ha : Pv ta σ H (.int i)) (hb : Pv tb σ H (.int j)) : Pv (tOp (rAddU K) ta tb) σ H (.int (i + j)) := pv_op ha hb fun Q q => .inl ⟨i, j, rfl, rfl, q⟩
theorem pv_mul (ha : Pv ta σ H (.int i)) (hb : Pv tb σ H (.int j)) (h : IntMulOk i j) : Pv (tOp (rMulU K) ta tb) σ H (.int (i * j)) := pv_op ha hb fun Q q => .inl ⟨i, j, rfl, rfl, h, q⟩
theorem pv_div (ha : Pv ta σ H (.int i)) (hb : Pv tb σ H (.int j)) (h : CDivW i j) : Pv (tOp rDivI ta tb) σ H (.int (i / j)) := pv_op ha hb fun Q q => ⟨i, j, rfl, rfl, h, q⟩
theorem pv_mod (ha : Pv ta σ H (.int i)) (hb : Pv tb σ H (.int j)) (h : 0 < j) : Pv (tOp rModI ta tb) σ H (.int (i % j)) := pv_op ha hb fun Q q => ⟨i, j, rfl, rfl, h, q⟩
theorem pv_pow (ha : Pv ta σ H (.int i)) (hb : Pv tb σ H (.int j)) (h : CPow i j) : Pv (tOp rPowI ta tb) σ H (.int (i ^ j.toNat)) := pv_op ha hb fun Q q => ⟨i, j, rfl, rfl, h, q⟩
theorem pv_lt (ha : Pv ta σ H (.int i)) (hb : Pv tb σ H (.int j)) : Pv (tOp (rLtU K) ta tb) σ H (.bl (decide (i < j))) := pv_op ha hb fun Q q => .inl ⟨i, j, rfl, rfl, q⟩
theorem pv_gt (ha : Pv ta σ H (.int i)) (hb : Pv tb σ H (.int j)) : Pv (tOp rGtI ta tb) σ H (.bl (decide (j < i))) := pv_op ha hb fun Q q => ⟨i, j, rfl, rfl, q⟩
theorem pv_ge (ha : Pv ta σ H (.int i)) (hb : Pv tb σ H (.int j)) : Pv (tOp rGeI ta tb) σ H (.bl (decide (j ≤ i))) := pv_op ha hb fun Q q => ⟨i, j, rfl, rfl, q⟩
theorem pv_ix {a : Addr} {xs : List V} (ha : Pv ta σ H (.ref a)) (hb : Pv tb σ H (.int i)) (hs : SqL K H a xs) (h : atI xs i = some v) : Pv (rIxU K ta tb) σ H v := fun Q q => .inr (.inl (ha _ (hb _ ⟨a, xs, i, v, rfl, rfl, hs, h, q⟩)))
theorem pv_len {a : Addr} {xs : List V} (ha : Pv ta σ H (.ref a)) (hs : SqL K H a xs) : Pv (tCB (rLenU K) (tCons ta tNil)) σ H (.int xs.length) := fun Q q => ha _ (.inl ⟨a, xs, rfl, .inl hs, q⟩)
theorem pb_test {b : Bool} (h : Pv te σ H (.bl b)) : Pb (tTest te) σ H b := fun Q q => h _ ⟨b, rfl, q⟩
theorem pb_or {a b : Bool} (h : Pb tt σ H a) (k : Pb tu σ H b) : Pb (tOr tt tu) σ H (a || b) := fun Q q => h _ (by
  cases a with
  | true => exact q
  | false => exact k _ q)
theorem rs_set {n : Nat} (h : Pv te σ H v) (k : E.nx (σ.set n (some v)) H) : tAsg te (gName n) E σ H := h _ k
theorem rs_let {n : Nat} (h : Pv te σ H v) (k : t E (σ.set n (some v)) H) : tSeq (tAsg te (gName n)) t E σ H := h _ k
theorem rs_if {b : Bool} (h : Pb tt σ H b) (h1 : b = true → t E σ H) (h2 : b = false → s E σ H) : tIfS tt t s E σ H := h _ (by
  cases b with
  | true => exact h1 rfl
  | false => exact h2 rfl)
theorem rs_ifq {b : Bool} {z : TS} (h : Pb tt σ H b) (h1 : b = true → tSeq t z E σ H) (h2 : b = false → tSeq s z E σ H) : tSeq (tIfS tt t s) z E σ H := h _ (by
  cases b with
  | true => exact h1 rfl
  | false => exact h2 rfl)
theorem rs_put {a : Addr} {xs : List V} {n : Nat} (ha : Pv ta σ H (.ref a)) (hb : Pv tb σ H (.int i)) (h : Pv te σ H v) (hH : H a = some (.lst xs)) (hn : ixN xs.length i = some n) (k : E.nx σ (upd H a (.lst (xs.set n v)))) : sPutU ta tb te E σ H :=
  .inl (h _ (ha _ (hb _ ⟨a, xs, i, n, rfl, rfl, hH, hn, k⟩)))
theorem rs_putq {a : Addr} {xs : List V} {n : Nat} {z : TS} (ha : Pv ta σ H (.ref a)) (hb : Pv tb σ H (.int i)) (h : Pv te σ H v) (hH : H a = some (.lst xs)) (hn : ixN xs.length i = some n) (k : z E σ (upd H a (.lst (xs.set n v)))) : tSeq (sPutU ta tb te) z E σ H :=
  rs_put ha hb h hH hn k
theorem rs_seq (M : St → Hp → Prop) (h : ∀ E' : Ends, (∀ σ' H', M σ' H' → E'.nx σ' H') → t E' σ H) (k : ∀ σ' H', M σ' H' → s E σ' H') : tSeq t s E σ H := h _ k
/-- slots: 0 tape, 1 many, 2 prime, 3 cell, 4 found -/
def t_law_draw (K : PySem.W.Frag) : TS := (tSeq (tAsg (tC (.int 2305843009213693951)) (gName 2)) (tSeq (tIfS (tTest (tOp (rLtU K) (rIxU K (tVar 0) (tC (.int 2))) (tVar 1))) (tSeq (tAsg (tC (.int 0)) (gName 3)) (tSeq (tIfS (tTest (tOp rGtI (tCB (rLenU K) (tCons (rIxU K (tVar 0) (tC (.int 0))) tNil)) (tC (.int 0)))) (tAsg (rIxU K (rIxU K (tVar 0) (tC (.int 0))) (tOp rModI (rIxU K (tVar 0) (tC (.int 1))) (tCB (rLenU K) (tCons (rIxU K (tVar 0) (tC (.int 0))) tNil)))) (gName 3)) tNext) (tSeq (tIfS (tOr (tTest (tOp rGeI (rIxU K (tVar 0) (tC (.int 1))) (tCB (rLenU K) (tCons (rIxU K (tVar 0) (tC (.int 0))) tNil)))) (tTest (tOp (rLtU K) (tVar 3) (tOp rPowI (tC (.int 10)) (tC (.int 18)))))) (tSeq (tAsg (tOp rModI (tOp (rAddU K) (tVar 3) (tOp (rMulU K) (tC (.int 1000003)) (rIxU K (tVar 0) (tC (.int 1))))) (tVar 2)) (gName 3)) (tSeq (tAsg (tOp rModI (tOp (rAddU K) (tOp (rAddU K) (tOp (rMulU K) (tVar 3) (tVar 3)) (tOp (rMulU K) (tC (.int 1181783497276652981)) (tVar 3))) (tC (.int 2049848353892358983))) (tVar 2)) (gName 3)) (tAsg (tOp rModI (tOp (rAddU K) (tOp (rMulU K) (tVar 3) (tVar 3)) (tC (.int 1442695040888963407))) (tVar 2)) (gName 3)))) tNext) (tSeq (sPutU (tVar 0) (tC (.int 1)) (tOp (rAddU K) (rIxU K (tVar 0) (tC (.int 1))) (tC (.int 1)))) (sPutU (tVar 0) (tC (.int 2)) (tVar 3)))))) tNext) (tSeq (tAsg (tOp rModI (rIxU K (tVar 0) (tC (.int 2))) (tVar 1)) (gName 4)) (tSeq (sPutU (tVar 0) (tC (.int 2)) (tOp rDivI (rIxU K (tVar 0) (tC (.int 2))) (tVar 1))) (tRet (tVar 4))))))
def sp_law_draw (K : PySem.W.Frag) : Sp := spP K false (fun many : Int => [.tp, .d (.int many)]) (fun many => 0 < many ∧ many < 2 ^ 60) (fun many d => ∃ r, d = .int r ∧ 0 ≤ r ∧ r < many)
/-- the heap while the tape is drawn on -/
def TH (H0 : Hp) (a b : Addr) (p c : Int) (H : Hp) : Prop := H a = some (.lst [.ref b, .int p, .int c]) ∧ ∀ x, x ≠ a → H x = H0 x
theorem TH.put {H0 : Hp} {a b : Addr} {p c p' c' : Int} (h : TH H0 a b p c H) : TH H0 a b p' c' (upd H a (.lst [.ref b, .int p', .int c'])) := ⟨upd_same, fun x n => by rw [upd_ne n]; exact h.2 x n⟩
theorem raw_draw {H0 : Hp} {a b : Addr} {p c many : Int} {ns : List Int} {Q : VK} (hab : b ≠ a) (hb : Rd H0 b (.lst (ns.map V.int))) (h0 : 0 ≤ p) (hm : 0 < many) (hm2 : many < 2 ^ 60) (th : TH H0 a b p c H)
    (k : ∀ p' c' r H', 0 ≤ p' → TH H0 a b p' c' H' → 0 ≤ r → r < many → Q (.int r) H') : t_law_draw K { nx := fun _ H' => Q .non H', rt := Q } [some (.ref a), some (.int many), none, none, none] H := by
  have scr : ∀ {H p c}, TH H0 a b p c H → SqL K H b (ns.map V.int) := fun {H p c} th => by
    have e := th.2 b hab
    rcases hb with h | ⟨o, h⟩
    · exact .inl (.inl (by rw [e]; exact h))
    · exact .inl (.inr ⟨o, by rw [e]; exact h⟩)
  have tap : ∀ {H p c}, TH H0 a b p c H → SqL K H a [.ref b, .int p, .int c] := fun {H p c} th => .inl (.inl th.1)
  refine rs_let pv_c ?_
  refine rs_seq (fun σ' H' => ∃ p' c' x, 0 ≤ p' ∧ TH H0 a b p' c' H' ∧ σ' = [some (.ref a), some (.int many), some (.int 2305843009213693951), x, none]) (fun E' hE => ?_) fun σ' H' hM => ?_
  · refine rs_if (pb_test (pv_lt (pv_ix (pv_v rfl) pv_c (tap th) rfl) (pv_v rfl))) (fun _ => ?_) fun _ => hE _ _ ⟨p, c, none, h0, th, rfl⟩
    refine rs_let pv_c ?_
    have one : ∀ x : Option V, Pv (rIxU K (tVar 0) (tC (.int 1))) [some (.ref a), some (.int many), some (.int 2305843009213693951), x, none] H (.int p) := fun x => pv_ix (pv_v rfl) pv_c (tap th) rfl
    have nought : ∀ x : Option V, Pv (rIxU K (tVar 0) (tC (.int 0))) [some (.ref a), some (.int many), some (.int 2305843009213693951), x, none] H (.ref b) := fun x => pv_ix (pv_v rfl) pv_c (tap th) rfl
    have len : ∀ x : Option V, Pv (tCB (rLenU K) (tCons (rIxU K (tVar 0) (tC (.int 0))) tNil)) [some (.ref a), some (.int many), some (.int 2305843009213693951), x, none] H (.int (ns.length : Int)) := fun x => by
      have z := pv_len (nought x) (scr th)
      rw [List.length_map] at z
      exact z
    refine rs_seq (fun σ' H' => H' = H ∧ ∃ n : Int, σ' = [some (.ref a), some (.int many), some (.int 2305843009213693951), some (.int n), none]) (fun E' hE => ?_) fun σ' H' hM => ?_
    · refine rs_if (pb_test (pv_gt (len _) pv_c)) (fun hb => ?_) fun _ => hE _ _ ⟨rfl, 0, rfl⟩
      have hl : 0 < ns.length := by simpa using hb
      obtain ⟨m, hm⟩ : ∃ m : Nat, p % (ns.length : Int) = (m : Int) := ⟨(p % (ns.length : Int)).toNat, by
        have h2 := Int.emod_nonneg p (b := (ns.length : Int)) (by omega)
        omega⟩
      have hi : m < ns.length := by
        have h1 := Int.emod_lt_of_pos p (b := (ns.length : Int)) (by omega)
        omega
      refine rs_set (v := .int ns[m]) (pv_ix (nought _) (pv_mod (one _) (len _) (by omega)) (scr th) ?_) (hE _ _ ⟨rfl, _, rfl⟩)
      rw [hm]
      refine atI_nat ?_
      rw [List.getElem?_map, List.getElem?_eq_getElem hi]
      rfl
    · obtain ⟨e1, n, e2⟩ := hM
      subst e1 e2
      refine rs_seq (fun σ' H2 => H2 = H' ∧ ∃ n : Int, σ' = [some (.ref a), some (.int many), some (.int 2305843009213693951), some (.int n), none]) (fun E' hE => ?_) fun σ' H2 hM => ?_
      · refine rs_if (pb_or (pb_test (pv_ge (one _) (len _))) (pb_test (pv_lt (pv_v rfl) (pv_pow pv_c pv_c ⟨by decide, by decide, by decide⟩)))) (fun _ => ?_) fun _ => hE _ _ ⟨rfl, n, rfl⟩
        refine rs_let (pv_mod (pv_add (pv_v rfl) (pv_mul pv_c (one _) (.of_left (by decide)))) (pv_v rfl) (by decide)) ?_
        generalize hx : (n + 1000003 * p) % 2305843009213693951 = x
        have x1 : x.natAbs < 2 ^ 61 := by
          have := Int.emod_lt_of_pos (n + 1000003 * p) (b := 2305843009213693951) (by decide)
          have := Int.emod_nonneg (n + 1000003 * p) (b := 2305843009213693951) (by decide)
          have e : (2 : Nat) ^ 61 = 2305843009213693952 := by decide
          omega
        refine rs_let (pv_mod (pv_add (pv_add (pv_mul (pv_v rfl) (pv_v rfl) (mul_ok 61 61 x1 x1 (by decide) (by decide) (by decide))) (pv_mul pv_c (pv_v rfl) (.of_left (by decide)))) pv_c) (pv_v rfl) (by decide)) ?_
        generalize hy : (x * x + 1181783497276652981 * x + 2049848353892358983) % 2305843009213693951 = y
        have y1 : y.natAbs < 2 ^ 61 := by
          have := Int.emod_lt_of_pos (x * x + 1181783497276652981 * x + 2049848353892358983) (b := 2305843009213693951) (by decide)
          have := Int.emod_nonneg (x * x + 1181783497276652981 * x + 2049848353892358983) (b := 2305843009213693951) (by decide)
          have e : (2 : Nat) ^ 61 = 2305843009213693952 := by decide
          omega
        exact rs_set (pv_mod (pv_add (pv_mul (pv_v rfl) (pv_v rfl) (mul_ok 61 61 y1 y1 (by decide) (by decide) (by decide))) pv_c) (pv_v rfl) (by decide)) (hE _ _ ⟨rfl, _, rfl⟩)
      · obtain ⟨e1, n, e2⟩ := hM
        subst e1 e2
        refine rs_putq (n := 1) (pv_v rfl) pv_c (pv_add (one _) pv_c) th.1 rfl ?_
        have th2 := th.put (p' := p + 1) (c' := c)
        exact rs_put (n := 2) (pv_v rfl) pv_c (pv_v rfl) th2.1 rfl (hE _ _ ⟨p + 1, n, _, by omega, th2.put, rfl⟩)
  · obtain ⟨p', c', x, hp, th', e⟩ := hM
    subst e
    refine rs_let (pv_mod (pv_ix (pv_v rfl) pv_c (tap th') rfl) (pv_v rfl) hm) ?_
    refine rs_putq (n := 2) (pv_v rfl) pv_c (pv_div (pv_ix (pv_v rfl) pv_c (tap th') rfl) (pv_v rfl) (div_w (b := 60) hm (by omega) (by decide))) th'.1 rfl ?_
    exact ⟨_, rfl, k p' (c' / many) (c' % many) _ hp th'.put (Int.emod_nonneg _ (by omega)) (Int.emod_lt_of_pos _ hm)⟩
theorem run_law_draw : ∀ vs H Q E, sp_law_draw K vs H Q E → t_law_draw K { nx := fun _ H' => Q .non H', rt := Q } (L2.start ["tape", "many", "prime", "cell", "found"] vs) H := fun vs H Q E ⟨many, w, hw, ok, _, ar, ⟨hm, hm2⟩, g⟩ => by
  subst hw
  obtain ⟨v, u, e, ⟨a, ea, ht⟩, ru⟩ := ars_two ar
  subst e ea
  rw [show u = .int many from ru]
  obtain ⟨hI, b, p, c, ns, hH, rd, h0, hl⟩ := ok.tape a ht
  have hab : b ≠ a := fun z => by
    subst z
    rcases rd with h | ⟨o, h⟩ <;> rw [hI] at h <;> cases h
  refine raw_draw (H0 := w.H) (ns := ns) hab (rd_same ok.sub rd) h0 hm hm2 ⟨hH, fun _ _ => rfl⟩ fun p' c' r H' hp th r0 r1 => ?_
  refine g (.int r) { w with H := H' } (.int r) ⟨rfl, rfl, fun _ _ h => h, fun x o e n => ?_, fun x e _ => e, fun x e => ?_⟩ ⟨fun x o e => ?_, fun x e => ?_, fun e => ?_, fun x xs e => ?_⟩ rfl ⟨r, rfl, r0, r1⟩
  · show H' x = some o
    rw [th.2 x fun z => n (by rw [ht, z])]
    exact e
  · have e : H' x = none := e
    by_cases z : x = a
    · rw [z, th.1] at e; cases e
    · rw [th.2 x z] at e; exact e
  · show H' x = some o
    have nx : x ≠ a := ne_of_none e hI
    rw [th.2 x nx]
    exact ok.sub _ _ e
  · have e : w.tp = some x := e
    rw [ht] at e
    cases e
    exact ⟨hI, b, p', c', ns, th.1, rd, hp, hl⟩
  · exact True.intro
  · have e : H' x = some (.tup xs) := e
    by_cases z : x = a
    · rw [z, th.1] at e; cases e
    · rw [th.2 x z] at e; exact ok.tups x xs e
end
end RF

set_option Elab.async false
set_option linter.all false
set_option maxRecDepth 100000
set_option maxHeartbeats 4000000
set_option autoImplicit false
set_option exponentiation.threshold 6000
namespace RF
open PySem L2

/-! ### fractions: sizes -/
/-- top and bottom not above A -/
def Bq (A : Nat) (q : Rat) : Prop := q.num.natAbs ≤ A ∧ q.den ≤ A
def Small (q : Rat) : Prop := q.num.natAbs < 2 ^ 2000 ∧ q.den < 2 ^ 2000
theorem Bq.small {A : Nat} {q : Rat} (h : Bq A q) (hA : A < 2 ^ 2000) : Small q := ⟨Nat.lt_of_le_of_lt h.1 hA, Nat.lt_of_le_of_lt h.2 hA⟩
theorem Bq.mono {A B : Nat} {q : Rat} (h : Bq A q) (hA : A ≤ B) : Bq B q := ⟨Nat.le_trans h.1 hA, Nat.le_trans h.2 hA⟩
theorem mk_le (t : Int) (b : Nat) (h : b ≠ 0) : (mkRat t b).num.natAbs ≤ t.natAbs ∧ (mkRat t b).den ≤ b := by
  obtain ⟨e1, e2⟩ := frac_mk t b h
  rw [e1, e2]
  refine ⟨?_, Nat.div_le_self _ _⟩
  rw [Int.natAbs_ediv_of_dvd (Int.ofNat_dvd_left.mpr (Nat.gcd_dvd_left _ _))]
  exact Nat.div_le_self _ _
theorem Bq.mk {A : Nat} {t : Int} {b : Nat} (h : b ≠ 0) (h1 : t.natAbs ≤ A) (h2 : b ≤ A) : Bq A (mkRat t b) := ⟨Nat.le_trans (mk_le t b h).1 h1, Nat.le_trans (mk_le t b h).2 h2⟩
theorem Rat.sub_def'' (a b : Rat) : a - b = mkRat (a.num * ↑b.den - b.num * ↑a.den) (a.den * b.den) := by rw [Rat.sub_def, Rat.normalize_eq_mkRat]
theorem cross_le {A B : Nat} {a b : Rat} (ha : Bq A a) (hb : Bq B b) : (a.num * (b.den : Int)).natAbs ≤ A * B ∧ (b.num * (a.den : Int)).natAbs ≤ A * B ∧ a.den * b.den ≤ A * B := by
  refine ⟨?_, ?_, Nat.mul_le_mul ha.2 hb.2⟩
  · rw [Int.natAbs_mul, Int.natAbs_natCast]; exact Nat.mul_le_mul ha.1 hb.2
  · rw [Int.natAbs_mul, Int.natAbs_natCast, Nat.mul_comm A B]; exact Nat.mul_le_mul hb.1 ha.2
theorem dens_ne (a b : Rat) : a.den * b.den ≠ 0 := Nat.mul_ne_zero a.den_nz b.den_nz
theorem Bq.add {A B : Nat} {a b : Rat} (ha : Bq A a) (hb : Bq B b) : Bq (2 * (A * B)) (a + b) := by
  obtain ⟨h1, h2, h3⟩ := cross_le ha hb
  rw [Rat.add_def']
  exact .mk (dens_ne a b) (by omega) (by omega)
theorem Bq.sub {A B : Nat} {a b : Rat} (ha : Bq A a) (hb : Bq B b) : Bq (2 * (A * B)) (a - b) := by
  obtain ⟨h1, h2, h3⟩ := cross_le ha hb
  rw [Rat.sub_def'']
  exact .mk (dens_ne a b) (by omega) (by omega)
theorem Bq.nat (n : Nat) (h : 1 ≤ n) : Bq n (n : Rat) := ⟨by show (((n : Int) : Rat)).num.natAbs ≤ n; rw [Rat.num_intCast]; omega, by show (((n : Int) : Rat)).den ≤ n; rw [Rat.den_intCast]; exact h⟩
def absQ (q : Rat) : Rat := if q < 0 then -q else q
def maxQ (a b : Rat) : Rat := if a < b then b else a
theorem abs_num (q : Rat) : (absQ q).num = (if q.num < 0 then -q.num else q.num) ∧ (absQ q).den = q.den := by
  unfold absQ
  have e : q < 0 ↔ q.num < 0 := by rw [← Rat.not_le, ← Int.not_le, Rat.num_nonneg]
  by_cases h : q < 0
  · rw [if_pos h, if_pos (e.mp h), Rat.neg_num, Rat.neg_den]; exact ⟨rfl, rfl⟩
  · rw [if_neg h, if_neg (fun z => h (e.mpr z))]; exact ⟨rfl, rfl⟩
theorem fD_abs (q : Rat) : fD (absQ q) = .tup [.int (if q.num < 0 then -q.num else q.num), .int (q.den : Int)] := by
  unfold fD
  rw [(abs_num q).1, (abs_num q).2]
theorem Bq.abs {A : Nat} {q : Rat} (h : Bq A q) : Bq A (absQ q) := by
  unfold Bq
  rw [(abs_num q).1, (abs_num q).2]
  refine ⟨?_, h.2⟩
  have := h.1
  split <;> omega
theorem Bq.max {A : Nat} {a b : Rat} (h : Bq A a) (k : Bq A b) : Bq A (maxQ a b) := by
  unfold maxQ
  split <;> assumption
theorem Bq.zero {A : Nat} (h : 1 ≤ A) : Bq A 0 := ⟨Nat.zero_le _, h⟩
theorem fD_int (n : Int) : fD (n : Rat) = .tup [.int n, .int 1] := by
  unfold fD
  rw [Rat.num_intCast, Rat.den_intCast]
  rfl
theorem fD_nat (n : Nat) : fD (n : Rat) = .tup [.int (n : Int), .int 1] := fD_int (n : Int)
theorem fD_zero : fD 0 = .tup [.int 0, .int 1] := rfl
theorem fD_inj {a b : Rat} (h : fD a = fD b) : a = b := by
  unfold fD at h
  injection h with h
  injection h with h1 h2
  injection h2 with h2 _
  injection h1 with h1
  injection h2 with h2
  exact Rat.ext h1 (by omega)
theorem less_dec (a b : Rat) : decide (a.num * (b.den : Int) < b.num * (a.den : Int)) = decide (a < b) := by
  rw [Bool.eq_iff_iff, decide_eq_true_iff, decide_eq_true_iff]
  exact (Rat.lt_iff a b).symm
section
variable {K : PySem.W.Frag} {lk : Bool} {ρ : List Sl} {ta tb te : TE} {a b q : Rat}
theorem ev_top (h : EvD K lk te ρ (fD q)) : EvD K lk (rIxU K te (tC (.int 0))) ρ (.int q.num) := eu_ixT h ev_int rfl
theorem ev_bot (h : EvD K lk te ρ (fD q)) : EvD K lk (rIxU K te (tC (.int 1))) ρ (.int (q.den : Int)) := eu_ixT h ev_int rfl
theorem small_mul {i j : Int} (hi : i.natAbs < 2 ^ 2000) (hj : j.natAbs < 2 ^ 2000) : IntMulOk i j := mul_ok 2000 2000 hi hj (by decide) (by decide) (by decide)
theorem ev_cross (ha : EvD K lk ta ρ (fD a)) (hb : EvD K lk tb ρ (fD b)) (sa : Small a) (sb : Small b) : EvD K lk (tOp (rMulU K) (rIxU K ta (tC (.int 0))) (rIxU K tb (tC (.int 1)))) ρ (.int (a.num * (b.den : Int))) := eu_mul (ev_top ha) (ev_bot hb) (small_mul sa.1 (by simpa using sb.2))
theorem ev_dens (ha : EvD K lk ta ρ (fD a)) (hb : EvD K lk tb ρ (fD b)) (sa : Small a) (sb : Small b) : EvD K lk (tOp (rMulU K) (rIxU K ta (tC (.int 1))) (rIxU K tb (tC (.int 1)))) ρ (.int (((a.den * b.den : Nat) : Nat) : Int)) := ev_is (eu_mul (ev_bot ha) (ev_bot hb) (small_mul (by simpa using sa.2) (by simpa using sb.2))) (by rw [Int.natCast_mul])
theorem dens_lt (sa : Small a) (sb : Small b) : a.den * b.den < 2 ^ 5000 := by
  have h : a.den * b.den < 2 ^ 2000 * 2 ^ 2000 := Nat.mul_lt_mul'' sa.2 sb.2
  rw [← Nat.pow_add] at h
  exact Nat.lt_of_lt_of_le h (Nat.pow_le_pow_right (by decide) (by decide))
abbrev Q2 : Type := Rat × Rat
def encQ2 (x : Q2) : List Ar := [.d (fD x.1), .d (fD x.2)]
def preQ2 (x : Q2) : Prop := Small x.1 ∧ Small x.2
/-! plus, minus -/
def sp_plus (K : PySem.W.Frag) : Sp := spP K false encQ2 preQ2 (fun x d => d = fD (x.1 + x.2))
def sp_minus (K : PySem.W.Frag) : Sp := spP K false encQ2 preQ2 (fun x d => d = fD (x.1 - x.2))
def sp_is_less (K : PySem.W.Frag) : Sp := spP K false encQ2 preQ2 (fun x d => d = .bl (decide (x.1 < x.2)))
/-- slots: 0 one, 1 other -/
def t_plus (K : PySem.W.Frag) : TS := (tRet (tCall (sp_fraction K) [] E0 (tCons (tOp (rAddU K) (tOp (rMulU K) (rIxU K (tVar 0) (tC (.int 0))) (rIxU K (tVar 1) (tC (.int 1)))) (tOp (rMulU K) (rIxU K (tVar 1) (tC (.int 0))) (rIxU K (tVar 0) (tC (.int 1))))) (tCons (tOp (rMulU K) (rIxU K (tVar 0) (tC (.int 1))) (rIxU K (tVar 1) (tC (.int 1)))) tNil))))
/-- slots: 0 one, 1 other -/
def t_minus (K : PySem.W.Frag) : TS := (tRet (tCall (sp_fraction K) [] E0 (tCons (tOp rSubI (tOp (rMulU K) (rIxU K (tVar 0) (tC (.int 0))) (rIxU K (tVar 1) (tC (.int 1)))) (tOp (rMulU K) (rIxU K (tVar 1) (tC (.int 0))) (rIxU K (tVar 0) (tC (.int 1))))) (tCons (tOp (rMulU K) (rIxU K (tVar 0) (tC (.int 1))) (rIxU K (tVar 1) (tC (.int 1)))) tNil))))
/-- slots: 0 one, 1 other -/
def t_is_less (K : PySem.W.Frag) : TS := (tRet (tOp (rLtU K) (tOp (rMulU K) (rIxU K (tVar 0) (tC (.int 0))) (rIxU K (tVar 1) (tC (.int 1)))) (tOp (rMulU K) (rIxU K (tVar 1) (tC (.int 0))) (rIxU K (tVar 0) (tC (.int 1))))))
theorem st_plus (lk : Bool) (x : Q2) (h : preQ2 x) : StS K lk (t_plus K) (startS 2 (encQ2 x)) (Fn fun d => d = fD (x.1 + x.2)) := by
  obtain ⟨sa, sb⟩ := h
  refine st_ret (ev_call ((x.1.num * (x.2.den : Int) + x.2.num * (x.1.den : Int), ((x.1.den * x.2.den : Nat) : Int)) : TI2) (ea_cons (eu_add (ev_cross (ev_v rfl) (ev_v rfl) sa sb) (ev_cross (ev_v rfl) (ev_v rfl) sb sa)) (ea_cons (ev_dens (ev_v rfl) (ev_v rfl) sa sb) ea_nil)) ⟨?_, ?_⟩) fun d e => ?_
  · have := dens_ne x.1 x.2
    dsimp only
    omega
  · exact dens_lt sa sb
  · rw [show d = _ from e, Rat.add_def']
    rfl
theorem st_minus (lk : Bool) (x : Q2) (h : preQ2 x) : StS K lk (t_minus K) (startS 2 (encQ2 x)) (Fn fun d => d = fD (x.1 - x.2)) := by
  obtain ⟨sa, sb⟩ := h
  refine st_ret (ev_call ((x.1.num * (x.2.den : Int) - x.2.num * (x.1.den : Int), ((x.1.den * x.2.den : Nat) : Int)) : TI2) (ea_cons (ev_sub (ev_cross (ev_v rfl) (ev_v rfl) sa sb) (ev_cross (ev_v rfl) (ev_v rfl) sb sa)) (ea_cons (ev_dens (ev_v rfl) (ev_v rfl) sa sb) ea_nil)) ⟨?_, ?_⟩) fun d e => ?_
  · have := dens_ne x.1 x.2
    dsimp only
    omega
  · exact dens_lt sa sb
  · rw [show d = _ from e, Rat.sub_def'']
    rfl
theorem st_is_less (lk : Bool) (x : Q2) (h : preQ2 x) : StS K lk (t_is_less K) (startS 2 (encQ2 x)) (Fn fun d => d = .bl (decide (x.1 < x.2))) := by
  obtain ⟨sa, sb⟩ := h
  refine st_ret (eu_lt (ev_cross (ev_v rfl) (ev_v rfl) sa sb) (ev_cross (ev_v rfl) (ev_v rfl) sb sa)) fun d e => ?_
  show d = _
  rw [e, less_dec]
theorem run_plus : ∀ vs H Q E, sp_plus K vs H Q E → t_plus K { nx := fun _ H' => Q .non H', rt := Q } (L2.start ["one", "other"] vs) H := sp_run 2 rfl fun lk _ x h => st_plus lk x h
theorem run_minus : ∀ vs H Q E, sp_minus K vs H Q E → t_minus K { nx := fun _ H' => Q .non H', rt := Q } (L2.start ["one", "other"] vs) H := sp_run 2 rfl fun lk _ x h => st_minus lk x h
theorem run_is_less : ∀ vs H Q E, sp_is_less K vs H Q E → t_is_less K { nx := fun _ H' => Q .non H', rt := Q } (L2.start ["one", "other"] vs) H := sp_run 2 rfl fun lk _ x h => st_is_less lk x h
/-! far, whole, greater -/
def sp_far (K : PySem.W.Frag) : Sp := spP K false encQ2 preQ2 (fun x d => d = fD (absQ (x.1 - x.2)))
/-- slots: 0 one, 1 other, 2 found -/
def t_far (K : PySem.W.Frag) : TS := (tSeq (tAsg (tCall (sp_minus K) [] E0 (tCons (tVar 0) (tCons (tVar 1) tNil))) (gName 2)) (tRet (tTupU (tCons (tCB rAbs (tCons (rIxU K (tVar 2) (tC (.int 0))) tNil)) (tCons (rIxU K (tVar 2) (tC (.int 1))) tNil)))))
theorem ev_abs (h : EvD K lk te ρ (fD q)) : EvD K lk (tTupU (tCons (tCB rAbs (tCons (rIxU K te (tC (.int 0))) tNil)) (tCons (rIxU K te (tC (.int 1))) tNil))) ρ (fD (absQ q)) := by
  rw [fD_abs]
  exact eu_tup (ds := [.int _, .int _]) (ea_cons (eu_abs (ev_top h)) (ea_cons (ev_bot h) ea_nil))
theorem st_far (lk : Bool) (x : Q2) (h : preQ2 x) : StS K lk (t_far K) (startS 3 (encQ2 x)) (Fn fun d => d = fD (absQ (x.1 - x.2))) := by
  refine st_let (ev_call x (ea_cons (ev_v rfl) (ea_cons (ev_v rfl) ea_nil)) h) fun d e => ?_
  have e : d = fD (x.1 - x.2) := e
  subst e
  exact st_ret (ev_abs (ev_v rfl)) fun d e => e
theorem run_far : ∀ vs H Q E, sp_far K vs H Q E → t_far K { nx := fun _ H' => Q .non H', rt := Q } (L2.start ["one", "other", "found"] vs) H := sp_run 3 rfl fun lk _ x h => st_far lk x h
def sp_whole (K : PySem.W.Frag) : Sp := spP K false (fun n : Int => [.d (.int n)]) (fun _ => True) (fun n d => d = fD (n : Rat))
/-- slots: 0 number -/
def t_whole (K : PySem.W.Frag) : TS := (tRet (tTupU (tCons (tVar 0) (tCons (tC (.int 1)) tNil))))
theorem ev_whole {n : Int} (h : EvD K lk te ρ (.int n)) : EvD K lk (tTupU (tCons te (tCons (tC (.int 1)) tNil))) ρ (fD (n : Rat)) := by
  rw [fD_int]
  exact eu_tup (ds := [.int _, .int _]) (ea_cons h (ea_cons ev_int ea_nil))
theorem st_whole (lk : Bool) (n : Int) : StS K lk (t_whole K) (startS 1 [.d (.int n)]) (Fn fun d => d = fD (n : Rat)) := st_ret (ev_whole (ev_v rfl)) fun d e => e
theorem run_whole : ∀ vs H Q E, sp_whole K vs H Q E → t_whole K { nx := fun _ H' => Q .non H', rt := Q } (L2.start ["number"] vs) H := sp_run 1 rfl fun lk _ n _ => st_whole lk n
def sp_greater (K : PySem.W.Frag) : Sp := spP K false encQ2 preQ2 (fun x d => d = fD (maxQ x.1 x.2))
/-- slots: 0 one, 1 other -/
def t_greater (K : PySem.W.Frag) : TS := (tRet (tIf (tB (tCall (sp_is_less K) [] E0 (tCons (tVar 0) (tCons (tVar 1) tNil)))) (tVar 1) (tVar 0)))
theorem ev_less {sp : Sp} (hsp : sp = sp_is_less K) (ha : EvD K lk ta ρ (fD a)) (hb : EvD K lk tb ρ (fD b)) (sa : Small a) (sb : Small b) : EvB K lk (tB (tCall sp [] E0 (tCons ta (tCons tb tNil)))) ρ (decide (a < b)) := by
  subst hsp
  exact et_B (ev_call ((a, b) : Q2) (ea_cons ha (ea_cons hb ea_nil)) ⟨sa, sb⟩)
theorem ev_maxQ {sp : Sp} (hsp : sp = sp_is_less K) (ha : EvD K lk ta ρ (fD a)) (hb : EvD K lk tb ρ (fD b)) (sa : Small a) (sb : Small b) : EvD K lk (tIf (tB (tCall sp [] E0 (tCons ta (tCons tb tNil)))) tb ta) ρ (fD (maxQ a b)) := by
  refine ev_if (ev_less hsp ha hb sa sb) (fun h => ?_) fun h => ?_
  · unfold maxQ; rw [if_pos (of_decide_eq_true h)]; exact hb
  · unfold maxQ; rw [if_neg (of_decide_eq_false h)]; exact ha
theorem st_greater (lk : Bool) (x : Q2) (h : preQ2 x) : StS K lk (t_greater K) (startS 2 (encQ2 x)) (Fn fun d => d = fD (maxQ x.1 x.2)) := st_ret (ev_maxQ rfl (ev_v rfl) (ev_v rfl) h.1 h.2) fun d e => e
theorem run_greater : ∀ vs H Q E, sp_greater K vs H Q E → t_greater K { nx := fun _ H' => Q .non H', rt := Q } (L2.start ["one", "other"] vs) H := sp_run 2 rfl fun lk _ x h => st_greater lk x h
/-! the same in the laws -/
def sp_law_common (K : PySem.W.Frag) : Sp := spP K false (fun x : Nat × Nat => [.d (.int x.1), .d (.int x.2)]) (fun _ => True) (fun x d => d = .int (x.1.gcd x.2 : Nat))
/-- slots: 0 one, 1 other -/
def t_law_common (K : PySem.W.Frag) : TS := (tSeq (tWhile (tTest (tOp (rNeU K) (tVar 0) (tC (.int 0)))) (tPar 0 1 (tCons (tOp rModI (tVar 1) (tVar 0)) (tCons (tVar 0) tNil)))) (tRet (tVar 1)))
theorem st_law_common (lk : Bool) (x : Nat × Nat) : StS K lk (t_law_common K) (startS 2 [.d (.int x.1), .d (.int x.2)]) (Fn fun d => d = .int (x.1.gcd x.2 : Nat)) := by
  obtain ⟨m0, n0⟩ := x
  dsimp only
  refine st_whileq (fun m ρ => ∃ n : Nat, ρ = [.dat (.int (m : Int)), .dat (.int (n : Int))] ∧ m.gcd n = m0.gcd n0) m0 ⟨n0, rfl, rfl⟩ (fun ρ => ρ = [.dat (.int 0), .dat (.int ((m0.gcd n0 : Nat) : Int))]) (fun m ρ h => ?_) fun ρ e => ?_
  · obtain ⟨n, rfl, hg⟩ := h
    refine ⟨!decide ((m : Int) = 0), et_test (eu_neI (ev_v rfl) ev_int), fun hb => ?_, fun hb => ?_⟩
    · have hm : 0 < m := by
        simp at hb
        omega
      refine st_par (a := .int ((n % m : Nat) : Int)) (b := .int (m : Int)) (ea_cons (ev_is (ev_mod (ev_v rfl) (ev_v rfl) (by omega)) (by simp)) (ea_cons (ev_v rfl) ea_nil)) ?_
      exact ⟨n % m, Nat.mod_lt _ hm, m, rfl, by rw [← hg, Nat.gcd_rec m n]⟩
    · have hm : m = 0 := by
        simp at hb
        omega
      subst hm
      rw [Nat.gcd_zero_left] at hg
      subst hg
      rfl
  · subst e
    exact st_ret (ev_v rfl) fun d e => e
theorem run_law_common : ∀ vs H Q E, sp_law_common K vs H Q E → t_law_common K { nx := fun _ H' => Q .non H', rt := Q } (L2.start ["one", "other"] vs) H := sp_run 2 rfl fun lk _ x _ => st_law_common lk x
def sp_law_frac (K : PySem.W.Frag) : Sp := sp_fraction K
/-- slots: 0 top, 1 bottom, 2 share -/
def t_law_frac (K : PySem.W.Frag) : TS := (tSeq (tAsg (tCall (sp_law_common K) [] E0 (tCons (tCB rAbs (tCons (tVar 0) tNil)) (tCons (tVar 1) tNil))) (gName 2)) (tRet (tTupU (tCons (tOp rDivI (tVar 0) (tVar 2)) (tCons (tOp rDivI (tVar 1) (tVar 2)) tNil)))))
theorem st_law_frac (lk : Bool) (x : TI2) (h0 : 0 < x.2) (hb : x.2.natAbs < 2 ^ 5000) : StS K lk (t_law_frac K) (startS 3 [.d (.int x.1), .d (.int x.2)]) (Fn fun d => d = fD (mkRat x.1 x.2.toNat)) := by
  obtain ⟨t, b⟩ := x
  dsimp only at h0 hb ⊢
  obtain ⟨n, rfl⟩ : ∃ n : Nat, b = n := ⟨b.toNat, by omega⟩
  have hn : 0 < n := by omega
  have hnb : n < 2 ^ 5000 := by simpa using hb
  refine st_let (ev_call ((t.natAbs, n) : Nat × Nat) (ea_cons (ev_is (eu_abs (ev_v rfl)) ?_) (ea_cons (ev_v rfl) ea_nil)) True.intro) fun d e => ?_
  · congr 1
    split <;> omega
  have e : d = .int ((t.natAbs.gcd n : Nat) : Int) := e
  subst e
  have hg0 : 0 < t.natAbs.gcd n := Nat.gcd_pos_of_pos_right _ hn
  have hgl : t.natAbs.gcd n ≤ n := Nat.gcd_le_right _ hn
  have hc : ∀ i : Int, CDivW i ((t.natAbs.gcd n : Nat) : Int) := fun i => div_w (b := 5000) (by omega) (by simp; omega) (by decide)
  refine st_ret (eu_tup (ds := [.int (t / ((t.natAbs.gcd n : Nat) : Int)), .int ((n : Int) / ((t.natAbs.gcd n : Nat) : Int))]) (ea_cons (ev_divW (ev_v rfl) (ev_v rfl) (hc _)) (ea_cons (ev_divW (ev_v rfl) (ev_v rfl) (hc _)) ea_nil))) fun d e => ?_
  show d = _
  obtain ⟨e1, e2⟩ := frac_mk t n (by omega)
  rw [e, show ((n : Int)).toNat = n by omega]
  unfold fD
  rw [e1, e2]
  rfl
theorem run_law_frac : ∀ vs H Q E, sp_law_frac K vs H Q E → t_law_frac K { nx := fun _ H' => Q .non H', rt := Q } (L2.start ["top", "bottom", "share"] vs) H := sp_run 3 rfl fun lk _ x h => st_law_frac lk x h.1 h.2
def sp_law_sum (K : PySem.W.Frag) : Sp := sp_plus K
def sp_law_less (K : PySem.W.Frag) : Sp := sp_minus K
def sp_law_below (K : PySem.W.Frag) : Sp := sp_is_less K
/-- slots: 0 one, 1 other -/
def t_law_sum (K : PySem.W.Frag) : TS := (tRet (tCall (sp_law_frac K) [] E0 (tCons (tOp (rAddU K) (tOp (rMulU K) (rIxU K (tVar 0) (tC (.int 0))) (rIxU K (tVar 1) (tC (.int 1)))) (tOp (rMulU K) (rIxU K (tVar 1) (tC (.int 0))) (rIxU K (tVar 0) (tC (.int 1))))) (tCons (tOp (rMulU K) (rIxU K (tVar 0) (tC (.int 1))) (rIxU K (tVar 1) (tC (.int 1)))) tNil))))
/-- slots: 0 one, 1 other -/
def t_law_less (K : PySem.W.Frag) : TS := (tRet (tCall (sp_law_frac K) [] E0 (tCons (tOp rSubI (tOp (rMulU K) (rIxU K (tVar 0) (tC (.int 0))) (rIxU K (tVar 1) (tC (.int 1)))) (tOp (rMulU K) (rIxU K (tVar 1) (tC (.int 0))) (rIxU K (tVar 0) (tC (.int 1))))) (tCons (tOp (rMulU K) (rIxU K (tVar 0) (tC (.int 1))) (rIxU K (tVar 1) (tC (.int 1)))) tNil))))
/-- slots: 0 one, 1 other -/
def t_law_below (K : PySem.W.Frag) : TS := (tRet (tOp (rLtU K) (tOp (rMulU K) (rIxU K (tVar 0) (tC (.int 0))) (rIxU K (tVar 1) (tC (.int 1)))) (tOp (rMulU K) (rIxU K (tVar 1) (tC (.int 0))) (rIxU K (tVar 0) (tC (.int 1))))))
theorem run_law_sum : ∀ vs H Q E, sp_law_sum K vs H Q E → t_law_sum K { nx := fun _ H' => Q .non H', rt := Q } (L2.start ["one", "other"] vs) H := run_plus
theorem run_law_less : ∀ vs H Q E, sp_law_less K vs H Q E → t_law_less K { nx := fun _ H' => Q .non H', rt := Q } (L2.start ["one", "other"] vs) H := run_minus
theorem run_law_below : ∀ vs H Q E, sp_law_below K vs H Q E → t_law_below K { nx := fun _ H' => Q .non H', rt := Q } (L2.start ["one", "other"] vs) H := run_is_less
end
end RF

set_option Elab.async false
set_option linter.all false
set_option maxRecDepth 100000
set_option maxHeartbeats 4000000
set_option autoImplicit false
set_option exponentiation.threshold 6000
namespace RF
open PySem L2

/-! ### rounds -/
abbrev Guest : Type := Str × Int × Int
abbrev Row : Type := List Guest
abbrev Rounds : Type := List Row
def gD (g : Guest) : D := .tup [.str g.1, .int g.2.1, .int g.2.2]
def rowD (r : Row) : D := .tup (r.map gD)
def rsD (R : Rounds) : D := .tup (R.map rowD)
structure WfRow (r : Row) : Prop where
  len : r.length ≤ 8
  ne : r ≠ []
  wt : ∀ g ∈ r, 1 ≤ g.2.1 ∧ g.2.1 ≤ 2 ^ 40
  nd : (r.map (·.1)).Nodup
  ok : ∀ g ∈ r, PyData.strOk g.1 = true
  can : ∃ g ∈ r, g.2.2 = 1
/-- each once, in the order of the first places -/
def dd (ks : List Str) : List Str := ks.foldl (fun acc s => if s ∈ acc then acc else acc ++ [s]) []
def allN (R : Rounds) : List Str := R.flatMap fun r => r.map (·.1)
def namesQ (R : Rounds) : List Str := sortS (dd (allN R))
structure Wf (R : Rounds) : Prop where
  len : R.length ≤ 20
  rows : ∀ r ∈ R, WfRow r
  few : (dd (allN R)).length ≤ 40
def wtQ (r : Row) : Int := (r.map (·.2.1)).sum
def mineQ (r : Row) (s : Str) : Int := ((r.filter fun g => decide (g.1 = s)).map (·.2.1)).sum
def partQ (r : Row) (s : Str) : Rat := mkRat (mineQ r s) (wtQ r).toNat
def dueQ (R : Rounds) (s : Str) (k : Nat) : Rat := (R.take k).foldl (fun q r => q + partQ r s) 0
def dueRow (R : Rounds) (s : Str) : List Rat := (List.range R.length).map fun k => dueQ R s (k + 1)
def canQ (r : Row) : List Str := (r.filter fun g => decide (g.2.2 = 1)).map (·.1)
/-! each once -/
theorem dd_go (ks : List Str) : ∀ acc : List Str, acc.Nodup → (ks.foldl (fun acc s => if s ∈ acc then acc else acc ++ [s]) acc).Nodup ∧ ∀ s, s ∈ ks.foldl (fun acc s => if s ∈ acc then acc else acc ++ [s]) acc ↔ s ∈ acc ∨ s ∈ ks := by
  induction ks with
  | nil => intro acc h; exact ⟨h, fun s => by simp⟩
  | cons k ks ih =>
    intro acc h
    have h' : (if k ∈ acc then acc else acc ++ [k]).Nodup := by
      split
      · exact h
      · rename_i hk
        rw [List.nodup_append]
        refine ⟨h, by simp, fun a ha b hb => ?_⟩
        rw [List.mem_singleton.mp hb]
        exact fun e => hk (e ▸ ha)
    obtain ⟨a, b⟩ := ih _ h'
    refine ⟨a, fun s => (b s).trans ?_⟩
    by_cases hk : k ∈ acc
    · rw [if_pos hk, List.mem_cons]
      constructor
      · rintro (z | z)
        · exact .inl z
        · exact .inr (.inr z)
      · rintro (z | z | z)
        · exact .inl z
        · exact .inl (z ▸ hk)
        · exact .inr z
    · rw [if_neg hk, List.mem_cons, List.mem_append, List.mem_singleton]
      constructor
      · rintro ((z | z) | z)
        · exact .inl z
        · exact .inr (.inl z)
        · exact .inr (.inr z)
      · rintro (z | z | z)
        · exact .inl (.inl z)
        · exact .inl (.inr z)
        · exact .inr z
theorem dd_nodup (ks : List Str) : (dd ks).Nodup := (dd_go ks [] .nil).1
theorem dd_mem {ks : List Str} {s : Str} : s ∈ dd ks ↔ s ∈ ks := by
  unfold dd
  rw [(dd_go ks [] .nil).2 s]
  simp
theorem names_mem {R : Rounds} {s : Str} : s ∈ namesQ R ↔ s ∈ allN R := by
  unfold namesQ
  rw [(sortS_perm _).mem_iff, dd_mem]
theorem names_nodup (R : Rounds) : (namesQ R).Nodup := (sortS_perm _).nodup_iff.mpr (dd_nodup _)
theorem names_len {R : Rounds} (h : Wf R) : (namesQ R).length ≤ 40 := by
  unfold namesQ
  rw [(sortS_perm _).length_eq]
  exact h.few
theorem keys_fold {α : Type} (v : α) : ∀ (ks : List Str) (acc : List (Key × α)) (as : List Str), acc.map (·.1) = as.map Sum.inr → (dFold v acc (ks.map Sum.inr)).map (·.1) = (ks.foldl (fun acc s => if s ∈ acc then acc else acc ++ [s]) as).map Sum.inr
  | [], acc, as, h => h
  | k :: ks, acc, as, h => by
    refine keys_fold v ks (putD acc (Sum.inr k) v) _ ?_
    rw [keys_put, h]
    have e : (Sum.inr k : Key) ∈ as.map Sum.inr ↔ k ∈ as := by
      rw [List.mem_map]
      constructor
      · rintro ⟨x, hx, e⟩; cases e; exact hx
      · intro hx; exact ⟨k, hx, rfl⟩
    show _ = List.map Sum.inr (if k ∈ as then as else as ++ [k])
    by_cases hk : k ∈ as
    · rw [if_pos (e.mpr hk), if_pos hk]
    · rw [if_neg (fun z => hk (e.mp z)), if_neg hk, List.map_append]
      rfl
theorem keys_dd {α : Type} (v : α) (ks : List Str) : (dFold v [] (ks.map (Sum.inr : Str → Key))).map (·.1) = (dd ks).map Sum.inr := keys_fold v ks [] [] rfl
/-! sizes -/
theorem sum_pos : ∀ (r : Row), (∀ g ∈ r, 1 ≤ g.2.1 ∧ g.2.1 ≤ 2 ^ 40) → (r.length : Int) ≤ wtQ r ∧ wtQ r ≤ r.length * 2 ^ 40
  | [], _ => ⟨Int.le_refl _, Int.le_refl _⟩
  | g :: r, h => by
    obtain ⟨a, b⟩ := sum_pos r fun g hg => h g (List.mem_cons_of_mem _ hg)
    obtain ⟨c, d⟩ := h g (by simp)
    have e : wtQ (g :: r) = g.2.1 + wtQ r := by unfold wtQ; rw [List.map_cons, List.sum_cons]
    rw [e, List.length_cons]
    generalize wtQ r = x at *
    have : (2 : Int) ^ 40 = 1099511627776 := by decide
    omega
theorem wt_pos {r : Row} (h : WfRow r) : 0 < wtQ r ∧ wtQ r ≤ 2 ^ 43 := by
  obtain ⟨a, b⟩ := sum_pos r h.wt
  have hl := h.len
  have hp : 0 < r.length := List.length_pos_iff.mpr h.ne
  have e1 : (2 : Int) ^ 40 = 1099511627776 := by decide
  have e2 : (2 : Int) ^ 43 = 8796093022208 := by decide
  omega
theorem mine_le : ∀ (r : Row) (s : Str), (∀ g ∈ r, 1 ≤ g.2.1 ∧ g.2.1 ≤ 2 ^ 40) → 0 ≤ mineQ r s ∧ mineQ r s ≤ wtQ r
  | [], s, _ => ⟨Int.le_refl _, Int.le_refl _⟩
  | g :: r, s, h => by
    obtain ⟨a, b⟩ := mine_le r s fun g hg => h g (List.mem_cons_of_mem _ hg)
    obtain ⟨c, d⟩ := h g (by simp)
    have e : wtQ (g :: r) = g.2.1 + wtQ r := by unfold wtQ; rw [List.map_cons, List.sum_cons]
    have e2 : mineQ (g :: r) s = (if g.1 = s then g.2.1 else 0) + mineQ r s := by
      unfold mineQ
      rw [List.filter_cons]
      by_cases z : g.1 = s
      · rw [if_pos (decide_eq_true z), if_pos z, List.map_cons, List.sum_cons]
      · rw [if_neg (by rw [decide_eq_false z]; decide), if_neg z, Int.zero_add]
    rw [e, e2]
    split <;> omega
theorem part_bq {r : Row} (h : WfRow r) (s : Str) : Bq (2 ^ 43) (partQ r s) := by
  obtain ⟨a, b⟩ := wt_pos h
  obtain ⟨c, d⟩ := mine_le r s h.wt
  have e2 : (2 : Int) ^ 43 = 8796093022208 := by decide
  have e3 : (2 : Nat) ^ 43 = 8796093022208 := by decide
  exact .mk (by omega) (by omega) (by omega)
theorem fold_bq (s : Str) : ∀ (R : Rounds) (q : Rat) (k : Nat), (∀ r ∈ R, WfRow r) → Bq (2 ^ (44 * k)) q → Bq (2 ^ (44 * (k + R.length))) (R.foldl (fun q r => q + partQ r s) q)
  | [], q, k, _, h => h
  | r :: R, q, k, hw, h => by
    have h1 : Bq (2 ^ (44 * (k + 1))) (q + partQ r s) := by
      have z := h.add (part_bq (hw r (by simp)) s)
      have e : 2 * (2 ^ (44 * k) * 2 ^ 43) = 2 ^ (44 * (k + 1)) := by
        rw [Nat.mul_add, Nat.pow_add]
        have : (2 : Nat) ^ (44 * 1) = 2 * 2 ^ 43 := by decide
        rw [this, Nat.mul_left_comm]
      rw [e] at z
      exact z
    have := fold_bq s R _ (k + 1) (fun r hr => hw r (List.mem_cons_of_mem _ hr)) h1
    rw [List.length_cons, show k + (R.length + 1) = k + 1 + R.length by omega]
    exact this
theorem due_bq {R : Rounds} (h : Wf R) (s : Str) (k : Nat) : Bq (2 ^ 880) (dueQ R s k) := by
  have z := fold_bq s (R.take k) 0 0 (fun r hr => h.rows r (List.mem_of_mem_take hr)) (.zero (Nat.le_refl _))
  refine z.mono (Nat.pow_le_pow_right (by decide) ?_)
  have hl := h.len
  have : (R.take k).length ≤ R.length := by rw [List.length_take]; omega
  omega
theorem due_small {R : Rounds} (h : Wf R) (s : Str) (k : Nat) : Small (dueQ R s k) := (due_bq h s k).small (Nat.pow_lt_pow_right (by decide) (by decide))
theorem due_succ {R : Rounds} {s : Str} {k : Nat} {r : Row} (h : R[k]? = some r) : dueQ R s (k + 1) = dueQ R s k + partQ r s := by
  unfold dueQ
  rw [take_succ_of h, List.foldl_append]
  rfl
theorem due_row_get {R : Rounds} {s : Str} {k : Nat} (h : k < R.length) : (dueRow R s)[k]? = some (dueQ R s (k + 1)) := by
  unfold dueRow
  rw [List.getElem?_map, List.getElem?_range h]
  rfl
theorem due_row_len (R : Rounds) (s : Str) : (dueRow R s).length = R.length := by unfold dueRow; rw [List.length_map, List.length_range]
theorem due_row_take {R : Rounds} {s : Str} {k : Nat} (h : k < R.length) : ((dueRow R s).take (k + 1)).map fD = ((dueRow R s).take k).map fD ++ [fD (dueQ R s (k + 1))] := by
  rw [take_succ_of (due_row_get h), List.map_append]
  rfl
/-! ### the defs -/
def NoughtOk (K : PySem.W.Frag) : Prop := ∀ I : Hp, Rp K I (fD 0) (.ref (He.ga K "NOUGHT"))
section
variable {K : PySem.W.Frag} {lk : Bool} {ρ : List Sl} {ta tb te : TE} {a b q : Rat}
theorem ev_nought (hn : NoughtOk K) : EvD K lk (tC (.ref (He.ga K "NOUGHT"))) ρ (fD 0) := ev_c hn
/-- [.. for name, weight, can in row if ..] -/
theorem ev_guests {tt : TT} {i j l : Nat} {r : Row} (h : EvD K lk ta ρ (rowD r)) (hl : r.length ≤ 1000) (f : Guest → Bool) (v : Guest → D)
    (turn : ∀ g ∈ r, EvB K lk tt ((((wipeS ρ [i, j, l]).set i (.dat (.str g.1))).set j (.dat (.int g.2.1))).set l (.dat (.int g.2.2))) (f g) ∧ (f g = true → EvD K lk te ((((wipeS ρ [i, j, l]).set i (.dat (.str g.1))).set j (.dat (.int g.2.1))).set l (.dat (.int g.2.2))) (v g))) :
    EvD K lk (tLc (iSeq K ta) (gTup K 3 (gCons (gName i) (gCons (gName j) (gCons (gName l) gNil)))) tt te [i, j, l]) ρ (.lst ((r.filter f).map v)) := by
  refine ev_lc (js := [i, j, l]) (is_tup h) (fun _ k ys => ys = ((r.take k).filter f).map v) (fun _ _ => rfl) (fun xs e => by rw [show xs = _ from e, List.length_map]; omega) (fun j hj => hj) (fun xs k x ys e hx ha => ?_) fun xs ys e ha => ?_
  · rw [show xs = _ from e, List.getElem?_map] at hx
    cases hg : r[k]? with
    | none => rw [hg] at hx; cases hx
    | some g =>
      rw [hg] at hx
      have hx : gD g = x := Option.some.inj hx
      subst hx
      obtain ⟨t1, t2⟩ := turn g (List.mem_of_getElem? hg)
      refine ⟨_, _, tg_tup3, t1, fun z => ?_, fun z => (t2 z.symm).imp fun d ed => ?_⟩
      · rw [filter_take_succ f v hg, if_neg (by rw [← z]; decide), List.append_nil]; exact ha
      · rw [filter_take_succ f v hg, if_pos z.symm, ha, ed]
  · rw [show xs = _ from e, List.length_map, List.take_length] at ha
    rw [ha]
def sp_who_can (K : PySem.W.Frag) : Sp := spP K false (fun r : Row => [.d (rowD r)]) (fun r => r.length ≤ 8) (fun r d => d = .lst ((canQ r).map D.str))
/-- slots: 0 row, 1 name, 2 weight, 3 can -/
def t_who_can (K : PySem.W.Frag) : TS := (tRet (tLc (iSeq K (tVar 0)) (gTup K 3 (gCons (gName 1) (gCons (gName 2) (gCons (gName 3) gNil)))) (tTest (tOp (rEqU K) (tVar 3) (tC (.int 1)))) (tVar 1) [1, 2, 3]))
theorem st_who_can (lk : Bool) (r : Row) (h : r.length ≤ 8) : StS K lk (t_who_can K) (startS 4 [.d (rowD r)]) (Fn fun d => d = .lst ((canQ r).map D.str)) := by
  refine st_ret (ev_guests (r := r) (ev_v rfl) (by omega) (fun g => decide (g.2.2 = 1)) (fun g => .str g.1) fun g _ => ⟨et_test (eu_eqI (ev_v rfl) ev_int), fun _ => ev_v rfl⟩) fun d e => ?_
  show d = _
  unfold canQ
  rw [e, List.map_map]
  rfl
theorem run_who_can : ∀ vs H Q E, sp_who_can K vs H Q E → t_who_can K { nx := fun _ H' => Q .non H', rt := Q } (L2.start ["row", "name", "weight", "can"] vs) H := sp_run 4 rfl fun lk _ r h => st_who_can lk r h
def sp_law_can (K : PySem.W.Frag) : Sp := sp_who_can K
/-- slots: 0 row, 1 name, 2 weight, 3 can -/
def t_law_can (K : PySem.W.Frag) : TS := (tRet (tLc (iSeq K (tVar 0)) (gTup K 3 (gCons (gName 1) (gCons (gName 2) (gCons (gName 3) gNil)))) (tTest (tOp (rEqU K) (tVar 3) (tC (.int 1)))) (tVar 1) [1, 2, 3]))
theorem run_law_can : ∀ vs H Q E, sp_law_can K vs H Q E → t_law_can K { nx := fun _ H' => Q .non H', rt := Q } (L2.start ["row", "name", "weight", "can"] vs) H := run_who_can
/-! names -/
def keyOf : D → Key
  | .tup (.str s :: _) => .inr s
  | _ => .inl 0
def ksD : D → List Key
  | .tup gs => gs.map keyOf
  | _ => []
theorem ks_row (r : Row) : ksD (rowD r) = (r.map (·.1)).map Sum.inr := by
  show (r.map gD).map keyOf = _
  rw [List.map_map, List.map_map]
  rfl
theorem ks_rows (R : Rounds) : (R.map rowD).flatMap ksD = (allN R).map Sum.inr := by
  unfold allN
  rw [List.flatMap_map]
  induction R with
  | nil => rfl
  | cons r R ih => rw [List.flatMap_cons, List.flatMap_cons, List.map_append, ks_row, ih]
theorem allN_len : ∀ {R : Rounds}, (∀ r ∈ R, r.length ≤ 8) → (allN R).length ≤ 8 * R.length
  | [], _ => Nat.le_refl _
  | r :: R, h => by
    have a := allN_len fun x hx => h x (List.mem_cons_of_mem _ hx)
    have b := h r (by simp)
    have e : allN (r :: R) = r.map (·.1) ++ allN R := rfl
    rw [e, List.length_append, List.length_map, List.length_cons]
    omega
def preR (R : Rounds) : Prop := R.length ≤ 20 ∧ (∀ r ∈ R, r.length ≤ 8) ∧ (dd (allN R)).length ≤ 40
theorem Wf.preR {R : Rounds} (h : Wf R) : preR R := ⟨h.len, fun r hr => (h.rows r hr).len, h.few⟩
def sp_names (K : PySem.W.Frag) : Sp := spP K false (fun R : Rounds => [.d (rsD R)]) preR (fun R d => d = .lst ((namesQ R).map D.str))
/-- slots: 0 rounds, 1 row, 2 name, 3 weight, 4 can -/
def t_names (K : PySem.W.Frag) : TS := (tRet (tCB (rSortedU K) (tCons (tDc2 (iSeq K (tVar 0)) (gName 1) (iSeq K (tVar 1)) (gTup K 3 (gCons (gName 2) (gCons (gName 3) (gCons (gName 4) gNil)))) (tVar 2) (tC (.bl true)) [1, 2, 3, 4] [2, 3, 4]) tNil)))
theorem st_names (lk : Bool) (R : Rounds) (h : preR R) : StS K lk (t_names K) (startS 5 [.d (rsD R)]) (Fn fun d => d = .lst ((namesQ R).map D.str)) := by
  have hl := allN_len h.2.1
  have h20 := h.1
  refine st_ret (eu_sortedD (kvs := dFold (.bl true) [] ((R.map rowD).flatMap ksD)) (ks := dd (allN R)) ?_ (by rw [ks_rows]; exact keys_dd _ _) (by have := h.2.2; omega)) fun d e => e
  refine ev_dc2K (js := [1]) (js1 := [2, 3, 4]) (is_tup (ev_v rfl)) ksD (.bl true) (by rw [ks_rows, List.length_map]; omega) (by decide) (by decide) fun x hx => ?_
  obtain ⟨r, hr, rfl⟩ := List.mem_map.mp hx
  refine ⟨_, r.map gD, tg_name, is_tup (ev_v rfl), by rw [ks_row, List.length_map, List.length_map, List.length_map], fun j y k hy hk => ?_⟩
  rw [List.getElem?_map] at hy
  rw [ks_row, List.getElem?_map, List.getElem?_map] at hk
  cases hg : r[j]? with
  | none => rw [hg] at hy; cases hy
  | some g =>
    rw [hg] at hy hk
    have hy : gD g = y := Option.some.inj hy
    have hk : Sum.inr g.1 = k := Option.some.inj hk
    subst hy hk
    exact ⟨_, tg_tup3, ev_v rfl, ev_bl⟩
theorem run_names : ∀ vs H Q E, sp_names K vs H Q E → t_names K { nx := fun _ H' => Q .non H', rt := Q } (L2.start ["rounds", "row", "name", "weight", "can"] vs) H := sp_run 5 rfl fun lk _ R h => st_names lk R h
end
end RF

set_option Elab.async false
set_option linter.all false
set_option maxRecDepth 100000
set_option maxHeartbeats 4000000
set_option autoImplicit false
set_option exponentiation.threshold 6000
namespace RF
open PySem L2

theorem eqD_lst_nil (xs : List D) : eqD (.lst xs) (.lst []) = decide (xs = []) := by
  cases xs with
  | nil => rfl
  | cons x xs => rfl
theorem eqD_tup_nil (xs : List D) : eqD (.tup xs) (.tup []) = decide (xs = []) := by
  cases xs with
  | nil => rfl
  | cons x xs => rfl
theorem plain_ints (n : Nat) (xs : List Int) : Plain (n + 1) (.lst (xs.map D.int)) := fun x hx => by
  obtain ⟨i, _, rfl⟩ := List.mem_map.mp hx
  cases n <;> exact True.intro
theorem plain_strs (n : Nat) {xs : List Str} (h : ∀ s ∈ xs, PyData.strOk s = true) : Plain (n + 1) (.tup (xs.map D.str)) := fun x hx => by
  obtain ⟨i, hi, rfl⟩ := List.mem_map.mp hx
  cases n <;> exact h i hi
theorem plain_nilL (n : Nat) : Plain (n + 1) (.lst []) := fun x hx => by cases hx
theorem plain_nilT (n : Nat) : Plain (n + 1) (.tup []) := fun x hx => by cases hx
/-- of names that are there once, one guest at most -/
theorem filter_one {r : Row} {s : Str} (hn : (r.map (·.1)).Nodup) : (r.filter fun g => decide (g.1 = s)) = [] ∨ ∃ g, g ∈ r ∧ g.1 = s ∧ (r.filter fun g => decide (g.1 = s)) = [g] := by
  induction r with
  | nil => exact .inl rfl
  | cons g r ih =>
    rw [List.map_cons, List.nodup_cons] at hn
    rw [List.filter_cons]
    by_cases z : g.1 = s
    · rw [if_pos (decide_eq_true z)]
      refine .inr ⟨g, by simp, z, ?_⟩
      rw [List.filter_eq_nil_iff.mpr fun x hx h => ?_]
      exact hn.1 (List.mem_map.mpr ⟨x, hx, (of_decide_eq_true h).trans z.symm⟩)
    · rw [if_neg (by rw [decide_eq_false z]; decide)]
      rcases ih hn.2 with h | ⟨x, hx, e, h⟩
      · exact .inl h
      · exact .inr ⟨x, List.mem_cons_of_mem _ hx, e, h⟩
section
variable {K : PySem.W.Frag} {lk : Bool} {ρ : List Sl} {ta tb te : TE} {a b q : Rat}
/-! part -/
def sp_part (K : PySem.W.Frag) : Sp := spP K false (fun x : Row × Str => [.d (rowD x.1), .d (.str x.2)]) (fun x => WfRow x.1) (fun x d => d = fD (partQ x.1 x.2))
/-- slots: 0 row, 1 name, 2 some, 3 guest, 4 weight, 5 can -/
def t_part (K : PySem.W.Frag) : TS := (tSeq (tAsg (tLc (iSeq K (tVar 0)) (gTup K 3 (gCons (gName 3) (gCons (gName 4) (gCons (gName 5) gNil)))) (tTest (tOp (rEqU K) (tVar 3) (tVar 1))) (tVar 4) [3, 4, 5]) (gName 2)) (tRet (tIf (tTest (tOp (rNeU K) (tVar 2) (tLst tNil))) (tCall (sp_fraction K) [] E0 (tCons (rIxU K (tVar 2) (tC (.int 0))) (tCons (tCB (rSum K) (tCons (tLc (iSeq K (tVar 0)) (gTup K 3 (gCons (gName 3) (gCons (gName 4) (gCons (gName 5) gNil)))) tYes (tVar 4) [3, 4, 5]) tNil)) tNil))) (tC (.ref (He.ga K "NOUGHT"))))))
theorem wt_pre {r : Row} (h : WfRow r) : 0 < wtQ r ∧ (wtQ r).natAbs < 2 ^ 5000 := by
  obtain ⟨a, b⟩ := wt_pos h
  have e2 : (2 : Int) ^ 43 = 8796093022208 := by decide
  have e3 : (8796093022208 : Nat) < 2 ^ 5000 := by decide
  exact ⟨a, by omega⟩
theorem st_part (hn : NoughtOk K) (lk : Bool) (x : Row × Str) (h : WfRow x.1) : StS K lk (t_part K) (startS 6 [.d (rowD x.1), .d (.str x.2)]) (Fn fun d => d = fD (partQ x.1 x.2)) := by
  obtain ⟨r, s⟩ := x
  dsimp only at h ⊢
  have hl := h.len
  refine st_letD (ev_is (ev_guests (r := r) (ev_v rfl) (by omega) (fun g => decide (g.1 = s)) (fun g => .int g.2.1) fun g _ => ⟨et_test (eu_eqS (ev_v rfl) (ev_v rfl)), fun _ => ev_v rfl⟩) (y := .lst (((r.filter fun g => decide (g.1 = s)).map (·.2.1)).map D.int)) (by rw [List.map_map]; rfl)) ?_
  refine st_ret (P := fun d => d = fD (partQ r s)) ?_ fun d e => e
  refine ev_if (et_test (eu_neD 1 (ev_v rfl) (ev_lst (ds := []) ea_nil) (plain_ints 0 _) (plain_nilL 0))) (fun hb => ?_) fun hb => ?_
  · rw [eqD_lst_nil] at hb
    rcases filter_one (s := s) h.nd with e | ⟨g, hg, eg, e⟩
    · rw [e] at hb; cases hb
    · refine (ev_call ((g.2.1, wtQ r) : TI2) (ea_cons (eu_ixL (ev_v rfl) ev_int (by rw [e]; rfl)) (ea_cons (ev_is (eu_sum (ns := r.map (·.2.1)) (ev_is (ev_guests (r := r) (ev_v rfl) (by omega) (fun g => true) (fun g => .int g.2.1) fun g _ => ⟨et_yes, fun _ => ev_v rfl⟩) ?_)) rfl) ea_nil)) (wt_pre h)).imp fun d ed => ?_
      · rw [List.filter_eq_self.mpr fun _ _ => rfl, List.map_map]; rfl
      · have ed : d = fD (mkRat g.2.1 (wtQ r).toNat) := ed
        unfold partQ mineQ
        rw [ed, e]
        rw [List.map_cons, List.map_nil, List.sum_cons, List.sum_nil, Int.add_zero]
  · rw [eqD_lst_nil] at hb
    have e : (r.filter fun g => decide (g.1 = s)) = [] := by simpa using hb
    refine ev_is (ev_nought hn) ?_
    unfold partQ mineQ
    rw [e]
    show fD 0 = fD (mkRat 0 _)
    rw [Rat.zero_mkRat]
theorem run_part (hn : NoughtOk K) : ∀ vs H Q E, sp_part K vs H Q E → t_part K { nx := fun _ H' => Q .non H', rt := Q } (L2.start ["row", "name", "some", "guest", "weight", "can"] vs) H := sp_run 6 rfl fun lk _ x h => st_part hn lk x h
/-! due_row -/
def sp_due_row (K : PySem.W.Frag) : Sp := spP K false (fun x : Rounds × Str => [.d (rsD x.1), .d (.str x.2)]) (fun x => Wf x.1) (fun x d => d = .tup ((dueRow x.1 x.2).map fD))
/-- slots: 0 rounds, 1 name, 2 found, 3 last, 4 row -/
def t_due_row (K : PySem.W.Frag) : TS := (tSeq (tPar 2 3 (tCons (tLst tNil) (tCons (tC (.ref (He.ga K "NOUGHT"))) tNil))) (tSeq (tFor (iSeq K (tVar 0)) (gName 4) (tSeq (tAsg (tCall (sp_plus K) [] E0 (tCons (tVar 3) (tCons (tCall (sp_part K) [] E0 (tCons (tVar 4) (tCons (tVar 1) tNil))) tNil))) (gName 3)) (tDrop (tBM K "list" rAppend (tVar 2) (tCons (tVar 3) tNil))))) (tRet (tCB (rTupU K) (tCons (tVar 2) tNil)))))
theorem part_small {r : Row} (h : WfRow r) (s : Str) : Small (partQ r s) := (part_bq h s).small (Nat.pow_lt_pow_right (by decide) (by decide))
theorem get_row {R : Rounds} {i : Nat} {x : D} (h : (R.map rowD)[i]? = some x) : ∃ r, R[i]? = some r ∧ x = rowD r := by
  rw [List.getElem?_map] at h
  cases hg : R[i]? with
  | none => rw [hg] at h; cases h
  | some r => rw [hg] at h; exact ⟨r, rfl, (Option.some.inj h).symm⟩
theorem st_due_row (hn : NoughtOk K) (lk : Bool) (x : Rounds × Str) (h : Wf x.1) : StS K lk (t_due_row K) (startS 5 [.d (rsD x.1), .d (.str x.2)]) (Fn fun d => d = .tup ((dueRow x.1 x.2).map fD)) := by
  obtain ⟨R, s⟩ := x
  dsimp only at h ⊢
  refine st_parOq (ev_nought hn) ?_
  refine st_forq (js := [4]) (is_tup (ev_v rfl)) (fun i ρ => ∃ y, ρ = [.dat (rsD R), .dat (.str s), .lst (((dueRow R s).take i).map fD), .dat (fD (dueQ R s i)), y]) ⟨_, rfl⟩ (fun i x ρ1 hx iv => ?_) fun ρ' iv => ?_
  · obtain ⟨y, rfl⟩ := iv
    obtain ⟨r, hr, rfl⟩ := get_row hx
    have hi : i < R.length := (List.getElem?_eq_some_iff.mp hr).1
    have wr := h.rows r (List.mem_of_getElem? hr)
    refine ⟨_, tg_name, ?_⟩
    refine st_let (ev_call ((dueQ R s i, partQ r s) : Q2) (ea_cons (ev_v rfl) (ea_cons (ev_call ((r, s) : Row × Str) (ea_cons (ev_v rfl) (ea_cons (ev_v rfl) ea_nil)) wr) ea_nil)) ⟨due_small h s i, part_small wr s⟩) fun d e => ?_
    have e : d = fD (dueQ R s i + partQ r s) := e
    rw [← due_succ hr] at e
    subst e
    refine st_app' (P := fun x => x = fD (dueQ R s (i + 1))) rfl (ev_v rfl) (by rw [List.length_map, List.length_take, due_row_len]; have := h.len; omega) fun d e => ⟨.dat (rowD r), ?_⟩
    subst e
    rw [due_row_take hi]
    rfl
  · obtain ⟨y, rfl⟩ := iv
    refine st_ret (eu_tupO rfl) fun d e => ?_
    show d = _
    rw [e, List.length_map, ← due_row_len R s, List.take_length]
theorem run_due_row (hn : NoughtOk K) : ∀ vs H Q E, sp_due_row K vs H Q E → t_due_row K { nx := fun _ H' => Q .non H', rt := Q } (L2.start ["rounds", "name", "found", "last", "row"] vs) H := sp_run 5 rfl fun lk _ x h => st_due_row hn lk x h
/-! dues -/
def duesD (R : Rounds) : List D := (namesQ R).map fun s => .tup [.str s, .tup ((dueRow R s).map fD)]
def sp_dues (K : PySem.W.Frag) : Sp := spP K false (fun R : Rounds => [.d (rsD R)]) Wf (fun R d => d = .lst (duesD R))
/-- slots: 0 rounds, 1 name -/
def t_dues (K : PySem.W.Frag) : TS := (tRet (tLc (iSeq K (tCall (sp_names K) [] E0 (tCons (tVar 0) tNil))) (gName 1) tYes (tTupU (tCons (tVar 1) (tCons (tCall (sp_due_row K) [] E0 (tCons (tVar 0) (tCons (tVar 1) tNil))) tNil))) [1]))
/-- [.. for name in names] -/
theorem ev_forNames {wi : TI} {i : Nat} {ns : List Str} (h : ItS K lk wi ρ (fun ys => ys = ns.map D.str)) (hl : ns.length ≤ 1000) (v : Str → D) (turn : ∀ s ∈ ns, EvD K lk te ((wipeS ρ [i]).set i (.dat (.str s))) (v s)) : EvD K lk (tLc wi (gName i) tYes te [i]) ρ (.lst (ns.map v)) := by
  refine ev_lc (js := [i]) h (fun _ k ys => ys = (ns.take k).map v) (fun _ _ => rfl) (fun xs e => by rw [show xs = _ from e, List.length_map]; omega) (fun j hj => hj) (fun xs k x ys e hx ha => ?_) fun xs ys e ha => ?_
  · rw [show xs = _ from e, List.getElem?_map] at hx
    cases hg : ns[k]? with
    | none => rw [hg] at hx; cases hx
    | some g =>
      rw [hg] at hx
      have hx : D.str g = x := Option.some.inj hx
      subst hx
      refine ⟨_, _, tg_name, et_yes, (fun z => Bool.noConfusion z), fun _ => (turn g (List.mem_of_getElem? hg)).imp fun d ed => ?_⟩
      rw [take_succ_of hg, List.map_append, ha, ed]
      rfl
  · rw [show xs = _ from e, List.length_map, List.take_length] at ha
    rw [ha]
theorem ev_names {sp : Sp} (hsp : sp = sp_names K) {R : Rounds} (h : EvD K lk te ρ (rsD R)) (w : preR R) : EvD K lk (tCall sp [] E0 (tCons te tNil)) ρ (.lst ((namesQ R).map D.str)) := by
  subst hsp
  exact ev_call R (ea_cons h ea_nil) w
theorem st_dues (lk : Bool) (R : Rounds) (h : Wf R) : StS K lk (t_dues K) (startS 2 [.d (rsD R)]) (Fn fun d => d = .lst (duesD R)) := by
  refine st_ret (ev_forNames (ns := namesQ R) (is_lst (ev_names rfl (ev_v rfl) h.preR)) (by have := names_len h; omega) (fun s => .tup [.str s, .tup ((dueRow R s).map fD)]) fun s hs => ?_) fun d e => e
  exact eu_tup (ds := [.str s, .tup ((dueRow R s).map fD)]) (ea_cons (ev_v rfl) (ea_cons (ev_call ((R, s) : Rounds × Str) (ea_cons (ev_v rfl) (ea_cons (ev_v rfl) ea_nil)) h) ea_nil))
theorem run_dues : ∀ vs H Q E, sp_dues K vs H Q E → t_dues K { nx := fun _ H' => Q .non H', rt := Q } (L2.start ["rounds", "name"] vs) H := sp_run 2 rfl fun lk _ R h => st_dues lk R h
/-! unfairness -/
def paidQ (ps : List Str) (s : Str) (k : Nat) : Nat := (ps.take k).count s
def gapQ (R : Rounds) (ps : List Str) (s : Str) (k : Nat) : Rat := absQ (dueQ R s (k + 1) - ((paidQ ps s (k + 1) : Nat) : Rat))
def unfRow (R : Rounds) (ps : List Str) (s : Str) (q : Rat) (n : Nat) : Rat := (List.range n).foldl (fun q k => maxQ q (gapQ R ps s k)) q
def unfTo (R : Rounds) (ps : List Str) (n : Nat) : Rat := ((namesQ R).take n).foldl (fun q s => unfRow R ps s q ps.length) 0
def unfQ (R : Rounds) (ps : List Str) : Rat := (namesQ R).foldl (fun q s => unfRow R ps s q ps.length) 0
theorem gap_bq {R : Rounds} (h : Wf R) {ps : List Str} (hp : ps.length ≤ R.length) (s : Str) (k : Nat) : Bq (2 ^ 900) (gapQ R ps s k) := by
  have hc : paidQ ps s (k + 1) ≤ 20 := by
    have h1 : (ps.take (k + 1)).count s ≤ (ps.take (k + 1)).length := List.count_le_length
    have h2 : (ps.take (k + 1)).length ≤ ps.length := by rw [List.length_take]; omega
    have := h.len
    unfold paidQ
    omega
  have hb : Bq 20 ((paidQ ps s (k + 1) : Nat) : Rat) := ⟨by show ((((paidQ ps s (k + 1) : Nat) : Int) : Rat)).num.natAbs ≤ 20; rw [Rat.num_intCast]; omega, by show ((((paidQ ps s (k + 1) : Nat) : Int) : Rat)).den ≤ 20; rw [Rat.den_intCast]; omega⟩
  have z := ((due_bq h s (k + 1)).sub hb).abs
  refine z.mono ?_
  have : (2 : Nat) ^ 900 = 2 ^ 880 * 2 ^ 20 := by rw [← Nat.pow_add]
  rw [this]
  have : (2 : Nat) ^ 20 = 1048576 := by decide
  generalize (2 : Nat) ^ 880 = x
  omega
theorem row_bq {R : Rounds} (h : Wf R) {ps : List Str} (hp : ps.length ≤ R.length) (s : Str) (ks : List Nat) : ∀ (q : Rat), Bq (2 ^ 900) q → Bq (2 ^ 900) (ks.foldl (fun q k => maxQ q (gapQ R ps s k)) q) := by
  induction ks with
  | nil => exact fun q h => h
  | cons k ks ih => exact fun q hq => ih _ (hq.max (gap_bq h hp s k))
theorem unf_bq {R : Rounds} (h : Wf R) {ps : List Str} (hp : ps.length ≤ R.length) (ns : List Str) : ∀ (q : Rat), Bq (2 ^ 900) q → Bq (2 ^ 900) (ns.foldl (fun q s => unfRow R ps s q ps.length) q) := by
  induction ns with
  | nil => exact fun q h => h
  | cons k ks ih => exact fun q hq => ih _ (row_bq h hp k _ q hq)
theorem bq_small {q : Rat} (h : Bq (2 ^ 900) q) : Small q := h.small (Nat.pow_lt_pow_right (by decide) (by decide))
theorem row_succ (R : Rounds) (ps : List Str) (s : Str) (q : Rat) (n : Nat) : unfRow R ps s q (n + 1) = maxQ (unfRow R ps s q n) (gapQ R ps s n) := by
  unfold unfRow
  rw [List.range_succ, List.foldl_append]
  rfl
abbrev RP : Type := Rounds × List Str
def encRP (x : RP) : List Ar := [.d (rsD x.1), .d (.tf x.2)]
def preRP (x : RP) : Prop := Wf x.1 ∧ x.2.length ≤ x.1.length ∧ ∀ s ∈ x.2, PyData.strOk s = true
def sp_unfairness (K : PySem.W.Frag) : Sp := spP K false encRP preRP (fun x d => d = fD (unfQ x.1 x.2))
/-- slots: 0 rounds, 1 payers, 2 found, 3 name, 4 row, 5 place -/
def t_unfairness (K : PySem.W.Frag) : TS := (tSeq (tAsg (tC (.ref (He.ga K "NOUGHT"))) (gName 2)) (tSeq (tFor (iSeq K (tCall (sp_dues K) [] E0 (tCons (tVar 0) tNil))) (gTup K 2 (gCons (gName 3) (gCons (gName 4) gNil))) (tFor (iRng1 (tCons (tCB (rLenU K) (tCons (tVar 1) tNil)) tNil)) (gName 5) (tAsg (tCall (sp_greater K) [] E0 (tCons (tVar 2) (tCons (tCall (sp_far K) [] E0 (tCons (rIxU K (tVar 4) (tVar 5)) (tCons (tCall (sp_whole K) [] E0 (tCons (tCount (tSl (slU K) (tVar 1) tNoPart (tPart (tOp (rAddU K) (tVar 5) (tC (.int 1))))) (tCons (tVar 3) tNil)) tNil)) tNil))) tNil))) (gName 2)))) (tRet (tVar 2))))
theorem count_eq (ps : List Str) (s : Str) (k : Nat) : ((ps.take (k + 1)).count s : Int) = ((paidQ ps s (k + 1) : Nat) : Int) := rfl
theorem ev_count {i j : Nat} {ps : List Str} {s : Str} {k : Nat} (hp : EvD K lk ta ρ (.tf ps)) (hk : EvD K lk tb ρ (.int (k : Int))) (hs : EvD K lk te ρ (.str s)) : EvD K lk (tCount (tSl (slU K) ta tNoPart (tPart (tOp (rAddU K) tb (tC (.int 1))))) (tCons te tNil)) ρ (.int ((paidQ ps s (k + 1) : Nat) : Int)) :=
  eu_count (eu_toF (n := k + 1) hp (ev_is (eu_add hk ev_int) (by simp))) hs
theorem get_due {R : Rounds} {i : Nat} {x : D} (h : (duesD R)[i]? = some x) : ∃ s, (namesQ R)[i]? = some s ∧ x = .tup [.str s, .tup ((dueRow R s).map fD)] := by
  unfold duesD at h
  rw [List.getElem?_map] at h
  cases hg : (namesQ R)[i]? with
  | none => rw [hg] at h; cases h
  | some r => rw [hg] at h; exact ⟨r, rfl, (Option.some.inj h).symm⟩
theorem get_range {lo : Int} {n i : Nat} {x : D} (h : (rangeD lo n)[i]? = some x) : i < n ∧ x = .int (lo + (i : Nat)) := by
  have hi : i < n := by
    have := (List.getElem?_eq_some_iff.mp h).1
    rw [rangeD_len] at this
    exact this
  rw [rangeD_get hi] at h
  exact ⟨hi, (Option.some.inj h).symm⟩
theorem at_due {R : Rounds} {s : Str} {k : Nat} (h : k < R.length) : atI ((dueRow R s).map fD) (k : Int) = some (fD (dueQ R s (k + 1))) := atI_nat (by rw [List.getElem?_map, due_row_get h]; rfl)
theorem it_len {ps : List Str} (hp : EvD K lk ta ρ (.tf ps)) (hl : ps.length ≤ 20) : ItS K lk (iRng1 (tCons (tCB (rLenU K) (tCons ta tNil)) tNil)) ρ (fun ys => ys = rangeD 0 ps.length) := by
  have z := it_range1 (K := K) (lk := lk) (ρ := ρ) (n := (ps.length : Int)) (ea_cons (ev_is (eu_lenT (ev_tf hp)) (by rw [List.length_map])) ea_nil) (by omega) (by omega)
  rw [Int.toNat_natCast] at z
  exact z
theorem st_unfairness (hn : NoughtOk K) (lk : Bool) (x : RP) (h : preRP x) : StS K lk (t_unfairness K) (startS 6 (encRP x)) (Fn fun d => d = fD (unfQ x.1 x.2)) := by
  obtain ⟨R, ps⟩ := x
  obtain ⟨w, hp, hok⟩ := h
  dsimp only at w hp hok ⊢
  have hl := w.len
  refine st_letD (ev_nought hn) ?_
  refine st_forq (js := [3, 4]) (is_lst (ev_call R (ea_cons (ev_v rfl) ea_nil) w)) (fun i ρ => ∃ x y z, ρ = [.dat (rsD R), .dat (.tf ps), .dat (fD (unfTo R ps i)), x, y, z]) ⟨_, _, _, rfl⟩ (fun i x ρ1 hx iv => ?_) fun ρ' iv => ?_
  · obtain ⟨x, y, z, rfl⟩ := iv
    obtain ⟨s, hs, rfl⟩ := get_due hx
    have ub : Bq (2 ^ 900) (unfTo R ps i) := unf_bq w hp _ 0 (.zero (Nat.pos_of_ne_zero (by decide)))
    refine ⟨_, tg_tup2, ?_⟩
    refine st_forD (js := [5]) (it_len (ev_v rfl) (by omega)) (fun j ρ => ∃ z, ρ = [.dat (rsD R), .dat (.tf ps), .dat (fD (unfRow R ps s (unfTo R ps i) j)), .dat (.str s), .dat (.tup ((dueRow R s).map fD)), z]) ⟨_, rfl⟩ (fun j x ρ1 hx iv => ?_) fun ρ' iv => ?_
    · obtain ⟨z, rfl⟩ := iv
      obtain ⟨hj, rfl⟩ := get_range hx
      rw [Int.zero_add]
      refine ⟨_, tg_name, ?_⟩
      have hb1 : Small ((((paidQ ps s (j + 1) : Nat) : Int) : Rat)) := by
        refine ⟨?_, ?_⟩
        · rw [Rat.num_intCast]
          have h1 : (ps.take (j + 1)).count s ≤ (ps.take (j + 1)).length := List.count_le_length
          have h2 : (ps.take (j + 1)).length ≤ ps.length := by rw [List.length_take]; omega
          have h3 : (20 : Nat) < 2 ^ 2000 := by decide
          unfold paidQ
          omega
        · rw [Rat.den_intCast]; decide
      refine st_asg (ev_call ((unfRow R ps s (unfTo R ps i) j, gapQ R ps s j) : Q2) (ea_cons (ev_v rfl) (ea_cons (ev_call ((dueQ R s (j + 1), (((paidQ ps s (j + 1) : Nat) : Int) : Rat)) : Q2) (ea_cons (eu_ixT (ev_v rfl) (ev_v rfl) (at_due (by omega))) (ea_cons (ev_call ((paidQ ps s (j + 1) : Nat) : Int) (ea_cons (ev_count (i := 0) (j := 0) (ev_v rfl) (ev_v rfl) (ev_v rfl)) ea_nil) True.intro) ea_nil)) ⟨due_small w s _, hb1⟩) ea_nil)) ⟨bq_small (row_bq w hp s _ _ ub), bq_small (gap_bq w hp s j)⟩) fun d e => ⟨.dat (.int (j : Int)), ?_⟩
      have e : d = fD (maxQ (unfRow R ps s (unfTo R ps i) j) (gapQ R ps s j)) := e
      rw [e, ← row_succ]
      rfl
    · obtain ⟨z, rfl⟩ := iv
      rw [rangeD_len]
      have e : unfTo R ps (i + 1) = unfRow R ps s (unfTo R ps i) ps.length := by
        unfold unfTo
        rw [take_succ_of hs, List.foldl_append]
        rfl
      refine ⟨.dat (.str s), .dat (.tup ((dueRow R s).map fD)), z, ?_⟩
      rw [e]
  · obtain ⟨x, y, z, rfl⟩ := iv
    refine st_ret (ev_v rfl) fun d e => ?_
    show d = _
    rw [e]
    unfold unfTo unfQ
    rw [show (duesD R).length = (namesQ R).length from by unfold duesD; rw [List.length_map], List.take_length]
theorem run_unfairness (hn : NoughtOk K) : ∀ vs H Q E, sp_unfairness K vs H Q E → t_unfairness K { nx := fun _ H' => Q .non H', rt := Q } (L2.start ["rounds", "payers", "found", "name", "row", "place"] vs) H := sp_run 6 rfl fun lk _ x h => st_unfairness hn lk x h
end
end RF

set_option Elab.async false
set_option linter.all false
set_option maxRecDepth 100000
set_option maxHeartbeats 4000000
set_option autoImplicit false
set_option exponentiation.threshold 6000
namespace RF
open PySem L2

section
variable {K : PySem.W.Frag} {lk : Bool} {ρ : List Sl} {ta tb te : TE} {a b q : Rat}
/-! standing -/
def standQ (R : Rounds) (ps : List Str) (s : Str) : Rat := dueQ R s ps.length - ((ps.count s : Nat) : Rat)
def standD (R : Rounds) (ps : List Str) (s : Str) : D := .tup [.str s, fD (standQ R ps s)]
def sp_standing (K : PySem.W.Frag) : Sp := spP K false encRP preRP (fun x d => d = .lst ((namesQ x.1).map (standD x.1 x.2)))
/-- slots: 0 rounds, 1 payers, 2 found, 3 name, 4 row, 5 due -/
def t_standing (K : PySem.W.Frag) : TS := (tSeq (tAsg (tLst tNil) (gName 2)) (tSeq (tFor (iSeq K (tCall (sp_dues K) [] E0 (tCons (tVar 0) tNil))) (gTup K 2 (gCons (gName 3) (gCons (gName 4) gNil))) (tSeq (tAsg (tIf (tTest (tOp (rNeU K) (tVar 1) (tTupU tNil))) (rIxU K (tVar 4) (tOp rSubI (tCB (rLenU K) (tCons (tVar 1) tNil)) (tC (.int 1)))) (tC (.ref (He.ga K "NOUGHT")))) (gName 5)) (tDrop (tBM K "list" rAppend (tVar 2) (tCons (tTupU (tCons (tVar 3) (tCons (tCall (sp_minus K) [] E0 (tCons (tVar 5) (tCons (tCall (sp_whole K) [] E0 (tCons (tCount (tVar 1) (tCons (tVar 3) tNil)) tNil)) tNil))) tNil))) tNil))))) (tRet (tVar 2))))
theorem small_nat {n : Nat} (h : n ≤ 1000) : Small (((n : Nat) : Int) : Rat) := by
  refine ⟨?_, ?_⟩
  · rw [Rat.num_intCast]
    have h3 : (1000 : Nat) < 2 ^ 2000 := by decide
    omega
  · rw [Rat.den_intCast]; decide
theorem tup_ne {ps : List Str} (h : ∀ s ∈ ps, PyData.strOk s = true) (hp : EvD K lk ta ρ (.tf ps)) : EvB K lk (tTest (tOp (rNeU K) ta (tTupU tNil))) ρ (!decide (ps = [])) := by
  refine eb_is (et_test (eu_neD 1 (ev_tf hp) (eu_tup (ds := []) ea_nil) (plain_strs 0 h) (plain_nilT 0))) ?_
  rw [eqD_tup_nil]
  congr 1
  rw [decide_eq_decide]
  exact List.map_eq_nil_iff
/-- the due behind the last round that they pay -/
theorem ev_last {tn : TE} {R : Rounds} {ps : List Str} {s : Str} (hp : EvD K lk ta ρ (.tf ps)) (hr : EvD K lk tb ρ (.tup ((dueRow R s).map fD))) (hz : EvD K lk tn ρ (fD 0)) (h : preRP (R, ps)) :
    EvD K lk (tIf (tTest (tOp (rNeU K) ta (tTupU tNil))) (rIxU K tb (tOp rSubI (tCB (rLenU K) (tCons ta tNil)) (tC (.int 1)))) tn) ρ (fD (dueQ R s ps.length)) := by
  obtain ⟨w, hl, ok⟩ := h
  dsimp only at w hl ok
  refine ev_if (tup_ne ok hp) (fun hb => ?_) fun hb => ?_
  · have hne : ps ≠ [] := by simpa using hb
    have hpos : 0 < ps.length := List.length_pos_iff.mpr hne
    obtain ⟨k, hk⟩ : ∃ k, ps.length = k + 1 := ⟨ps.length - 1, by omega⟩
    rw [hk]
    exact eu_ixT hr (ev_is (ev_sub (ev_is (eu_lenT (ev_tf hp)) (by rw [List.length_map, hk])) ev_int) (by congr 1; show ((k + 1 : Nat) : Int) - 1 = (k : Int); omega)) (at_due (by omega))
  · have e : ps = [] := by simpa using hb
    subst e
    exact hz
theorem st_standing (hn : NoughtOk K) (lk : Bool) (x : RP) (h : preRP x) : StS K lk (t_standing K) (startS 6 (encRP x)) (Fn fun d => d = .lst ((namesQ x.1).map (standD x.1 x.2))) := by
  obtain ⟨R, ps⟩ := x
  have hpre := h
  obtain ⟨w, hp, hok⟩ := h
  dsimp only at w hp hok ⊢
  have hl := w.len
  refine st_own (ds := []) ea_nil ?_
  refine st_forq (js := [3, 4]) (is_lst (ev_call R (ea_cons (ev_v rfl) ea_nil) w)) (fun i ρ => ∃ x y z, ρ = [.dat (rsD R), .dat (.tf ps), .lst (((namesQ R).take i).map (standD R ps)), x, y, z]) ⟨_, _, _, rfl⟩ (fun i x ρ1 hx iv => ?_) fun ρ' iv => ?_
  · obtain ⟨x, y, z, rfl⟩ := iv
    obtain ⟨s, hs, rfl⟩ := get_due hx
    refine ⟨_, tg_tup2, ?_⟩
    refine st_letD (ev_last (R := R) (s := s) (ev_v rfl) (ev_v rfl) (ev_nought hn) hpre) ?_
    have hc : ps.count s ≤ 20 := by
      have h1 : ps.count s ≤ ps.length := List.count_le_length
      omega
    refine st_app' (P := fun x => x = standD R ps s) rfl (eu_tup (ds := [.str s, fD (standQ R ps s)]) (ea_cons (ev_v rfl) (ea_cons (ev_call ((dueQ R s ps.length, (((ps.count s : Nat) : Int) : Rat)) : Q2) (ea_cons (ev_v rfl) (ea_cons (ev_call ((ps.count s : Nat) : Int) (ea_cons (eu_count (ev_v rfl) (ev_v rfl)) ea_nil) True.intro) ea_nil)) ⟨due_small w s _, small_nat (by omega)⟩) ea_nil))) ?_ fun d e => ⟨.dat (.str s), .dat (.tup ((dueRow R s).map fD)), .dat (fD (dueQ R s ps.length)), ?_⟩
    · rw [List.length_map, List.length_take]
      have := names_len w
      omega
    · subst e
      rw [take_succ_of hs, List.map_append]
      rfl
  · obtain ⟨x, y, z, rfl⟩ := iv
    refine st_retL rfl ?_
    show D.lst _ = _
    rw [show (duesD R).length = (namesQ R).length from by unfold duesD; rw [List.length_map], List.take_length]
theorem run_standing (hn : NoughtOk K) : ∀ vs H Q E, sp_standing K vs H Q E → t_standing K { nx := fun _ H' => Q .non H', rt := Q } (L2.start ["rounds", "payers", "found", "name", "row", "due"] vs) H := sp_run 6 rfl fun lk _ x h => st_standing hn lk x h
/-! by_debts -/
def debtQ (R : Rounds) (ps : List Str) (k : Nat) (s : Str) : Rat := dueQ R s (k + 1) - ((ps.count s : Nat) : Rat)
def better (R : Rounds) (ps : List Str) (k : Nat) : Option (Rat × Str) → Str → Option (Rat × Str)
  | none, s => some (debtQ R ps k s, s)
  | some p, s => if p.1 < debtQ R ps k s then some (debtQ R ps k s, s) else some p
def bestQ (R : Rounds) (ps : List Str) (k : Nat) (cs : List Str) : Option (Rat × Str) := cs.foldl (better R ps k) none
def pickQ (R : Rounds) (ps : List Str) (k : Nat) (cs : List Str) : Str := match bestQ R ps k cs with
  | some p => p.2
  | none => ""
def byTo (R : Rounds) : Nat → List Str
  | 0 => []
  | n + 1 => byTo R n ++ (match R[n]? with | some r => [pickQ R (byTo R n) n (canQ r)] | none => [])
def byQ (R : Rounds) : List Str := byTo R R.length
def bestD : Option (Rat × Str) → D
  | none => .non
  | some p => .tup [fD p.1, .str p.2]
theorem better_mem (R : Rounds) (ps : List Str) (k : Nat) : ∀ (cs : List Str) (b : Option (Rat × Str)) (p : Rat × Str), cs.foldl (better R ps k) b = some p → (∃ s, p = (debtQ R ps k s, s) ∧ s ∈ cs) ∨ b = some p
  | [], b, p, h => .inr h
  | c :: cs, b, p, h => by
    rcases better_mem R ps k cs (better R ps k b c) p h with ⟨s, e, hs⟩ | e
    · exact .inl ⟨s, e, List.mem_cons_of_mem _ hs⟩
    · cases b with
      | none => exact .inl ⟨c, (Option.some.inj e).symm, by simp⟩
      | some b =>
        have e : (if b.1 < debtQ R ps k c then some (debtQ R ps k c, c) else some b) = some p := e
        by_cases z : b.1 < debtQ R ps k c
        · rw [if_pos z] at e; exact .inl ⟨c, (Option.some.inj e).symm, by simp⟩
        · rw [if_neg z] at e; exact .inr e
theorem better_some (R : Rounds) (ps : List Str) (k : Nat) : ∀ (cs : List Str) (b : Option (Rat × Str)), (cs ≠ [] ∨ b ≠ none) → cs.foldl (better R ps k) b ≠ none
  | [], b, h => h.elim (fun z => absurd rfl z) id
  | c :: cs, b, _ => better_some R ps k cs _ (.inr (by
    cases b with
    | none => exact Option.some_ne_none _
    | some b =>
      show (if b.1 < debtQ R ps k c then some (debtQ R ps k c, c) else some b) ≠ none
      split <;> exact Option.some_ne_none _))
theorem best_some {R : Rounds} {ps : List Str} {k : Nat} {cs : List Str} (h : cs ≠ []) : bestQ R ps k cs = some (debtQ R ps k (pickQ R ps k cs), pickQ R ps k cs) ∧ pickQ R ps k cs ∈ cs := by
  cases e : bestQ R ps k cs with
  | none => exact absurd e (better_some R ps k cs none (.inl h))
  | some p =>
    rcases better_mem R ps k cs none p e with ⟨s, ep, hs⟩ | z
    · have hp : pickQ R ps k cs = s := by unfold pickQ; rw [e, ep]
      rw [hp]
      exact ⟨by rw [ep], hs⟩
    · cases z
theorem can_ne {r : Row} (h : WfRow r) : canQ r ≠ [] := by
  obtain ⟨g, hg, e⟩ := h.can
  unfold canQ
  intro z
  rw [List.map_eq_nil_iff, List.filter_eq_nil_iff] at z
  exact z g hg (decide_eq_true e)
theorem can_mem {r : Row} {s : Str} (h : s ∈ canQ r) : ∃ g ∈ r, g.1 = s ∧ g.2.2 = 1 := by
  unfold canQ at h
  obtain ⟨g, hg, e⟩ := List.mem_map.mp h
  obtain ⟨h1, h2⟩ := List.mem_filter.mp hg
  exact ⟨g, h1, e, of_decide_eq_true h2⟩
theorem by_succ {R : Rounds} {n : Nat} {r : Row} (h : R[n]? = some r) : byTo R (n + 1) = byTo R n ++ [pickQ R (byTo R n) n (canQ r)] := by
  show byTo R n ++ _ = _
  rw [h]
theorem by_len {R : Rounds} : ∀ {n : Nat}, n ≤ R.length → (byTo R n).length = n
  | 0, _ => rfl
  | n + 1, h => by
    have hr : R[n]? = some R[n] := List.getElem?_eq_getElem h
    rw [by_succ hr, List.length_append, by_len (by omega)]
    rfl
/-- payers who can, round by round -/
def Pays (R : Rounds) (ps : List Str) : Prop := ps.length ≤ R.length ∧ ∀ (k : Nat) (r : Row) (s : Str), R[k]? = some r → ps[k]? = some s → s ∈ canQ r
theorem Pays.snoc {R : Rounds} {ps : List Str} {r : Row} {s : Str} (h : Pays R ps) (hr : R[ps.length]? = some r) (hs : s ∈ canQ r) : Pays R (ps ++ [s]) := by
  refine ⟨?_, fun k r' s' h1 h2 => ?_⟩
  · have := (List.getElem?_eq_some_iff.mp hr).1
    rw [List.length_append, List.length_singleton]
    omega
  · by_cases hk : k < ps.length
    · rw [List.getElem?_append_left hk] at h2
      exact h.2 k r' s' h1 h2
    · rw [List.getElem?_append_right (by omega)] at h2
      have e : k - ps.length = 0 := by
        have := (List.getElem?_eq_some_iff.mp h2).1
        rw [List.length_singleton] at this
        omega
      rw [e] at h2
      have hk2 : k = ps.length := by omega
      rw [hk2, hr] at h1
      cases h1
      cases h2
      exact hs
theorem Pays.nil (R : Rounds) : Pays R [] := ⟨Nat.zero_le _, fun k r s _ h => by cases h⟩
theorem by_pays {R : Rounds} (w : Wf R) : ∀ n, n ≤ R.length → Pays R (byTo R n)
  | 0, _ => .nil R
  | n + 1, h => by
    have hr : R[n]? = some R[n] := List.getElem?_eq_getElem h
    have wr := w.rows _ (List.getElem_mem h)
    rw [by_succ hr]
    exact (by_pays w n (by omega)).snoc (by rw [by_len (by omega)]; exact hr) (best_some (can_ne wr)).2
theorem Pays.mem {R : Rounds} {ps : List Str} (h : Pays R ps) {s : Str} (hs : s ∈ ps) : ∃ r ∈ R, ∃ g ∈ r, g.1 = s := by
  obtain ⟨k, hk, e⟩ := List.getElem_of_mem hs
  have hl := h.1
  have hr : R[k]? = some R[k] := List.getElem?_eq_getElem (by omega)
  obtain ⟨g, hg, e1, _⟩ := can_mem (h.2 k _ s hr (by rw [List.getElem?_eq_getElem hk, e]))
  exact ⟨_, List.getElem_mem (by omega), g, hg, e1⟩
theorem Pays.ok {R : Rounds} {ps : List Str} (h : Pays R ps) (w : Wf R) : preRP (R, ps) := ⟨w, h.1, fun s hs => by
  obtain ⟨r, hr, g, hg, e⟩ := h.mem hs
  rw [← e]
  exact (w.rows r hr).ok g hg⟩
theorem debt_small {R : Rounds} (w : Wf R) {ps : List Str} (h : ps.length ≤ R.length) (k : Nat) (s : Str) : Small (debtQ R ps k s) := by
  have hc : ps.count s ≤ 20 := by
    have h1 : ps.count s ≤ ps.length := List.count_le_length
    have := w.len
    omega
  have hb : Bq 20 ((ps.count s : Nat) : Rat) := ⟨by show ((((ps.count s : Nat) : Int) : Rat)).num.natAbs ≤ 20; rw [Rat.num_intCast]; omega, by show ((((ps.count s : Nat) : Int) : Rat)).den ≤ 20; rw [Rat.den_intCast]; omega⟩
  have z := (due_bq w s (k + 1)).sub hb
  refine bq_small (z.mono ?_)
  have : (2 : Nat) ^ 900 = 2 ^ 880 * 2 ^ 20 := by rw [← Nat.pow_add]
  rw [this]
  have : (2 : Nat) ^ 20 = 1048576 := by decide
  generalize (2 : Nat) ^ 880 = x
  omega
def sp_by_debts (K : PySem.W.Frag) : Sp := spP K false (fun R : Rounds => [.d (rsD R)]) Wf (fun R d => d = .tf (byQ R))
/-- slots: 0 rounds, 1 payers, 2 place, 3 row, 4 best_one, 5 name, 6 debt -/
def t_by_debts (K : PySem.W.Frag) : TS := (tSeq (tAsg (tTupU tNil) (gName 1)) (tSeq (tFor (iEnumU K (tCons (tVar 0) tNil)) (gTup K 2 (gCons (gName 2) (gCons (gName 3) gNil))) (tSeq (tAsg (tC .non) (gName 4)) (tSeq (tFor (iSeq K (tCall (sp_who_can K) [] E0 (tCons (tVar 3) tNil))) (gName 5) (tSeq (tAsg (tCall (sp_minus K) [] E0 (tCons (rIxU K (tCall (sp_due_row K) [] E0 (tCons (tVar 0) (tCons (tVar 5) tNil))) (tVar 2)) (tCons (tCall (sp_whole K) [] E0 (tCons (tCount (tVar 1) (tCons (tVar 5) tNil)) tNil)) tNil))) (gName 6)) (tIfS (tOr (tTest (tOp rIsN (tVar 4) (tC .non))) (tB (tCall (sp_is_less K) [] E0 (tCons (rIxU K (tVar 4) (tC (.int 0))) (tCons (tVar 6) tNil))))) (tAsg (tTupU (tCons (tVar 6) (tCons (tVar 5) tNil))) (gName 4)) tNext))) (tAsg (tOp (rAddU K) (tVar 1) (tTupU (tCons (rIxU K (tVar 4) (tC (.int 1))) tNil))) (gName 1))))) (tRet (tVar 1))))
theorem isN_tup (xs : List D) (I : Hp) (v : V) (h : Rp K I (.tup xs) v) : decide (v = .non) = false := by
  obtain ⟨a, vs, e, _⟩ := h
  rw [e]
  rfl
theorem st_by_debts (lk : Bool) (R : Rounds) (w : Wf R) : StS K lk (t_by_debts K) (startS 7 [.d (rsD R)]) (Fn fun d => d = .tf (byQ R)) := by
  have hl := w.len
  refine st_letD (eu_tupF [] ea_nil) ?_
  refine st_forq (js := [2, 3]) (it_enumT (ev_v rfl)) (fun i ρ => ∃ x2 x3 x4 x5 x6, ρ = [.dat (rsD R), .dat (.tf (byTo R i)), x2, x3, x4, x5, x6]) ⟨_, _, _, _, _, rfl⟩ (fun i x ρ1 hx iv => ?_) fun ρ' iv => ?_
  · obtain ⟨x2, x3, x4, x5, x6, rfl⟩ := iv
    obtain ⟨x0, hx0, rfl⟩ := enumD_inv hx
    obtain ⟨r, hr, rfl⟩ := get_row hx0
    have hi : i < R.length := (List.getElem?_eq_some_iff.mp hr).1
    have wr := w.rows r (List.mem_of_getElem? hr)
    have bl : (byTo R i).length = i := by_len (by omega)
    refine ⟨_, tg_tup2, ?_⟩
    refine st_letD ev_non ?_
    refine st_forq (js := [5]) (is_lst (ev_call r (ea_cons (ev_v rfl) ea_nil) wr.len)) (fun j ρ => ∃ x5 x6, ρ = [.dat (rsD R), .dat (.tf (byTo R i)), .dat (.int (i : Nat)), .dat (rowD r), .dat (bestD (bestQ R (byTo R i) i ((canQ r).take j))), x5, x6]) ⟨_, _, rfl⟩ (fun j x ρ1 hx iv => ?_) fun ρ' iv => ?_
    · obtain ⟨x5, x6, rfl⟩ := iv
      rw [List.getElem?_map] at hx
      cases hg : (canQ r)[j]? with
      | none => rw [hg] at hx; cases hx
      | some s =>
        rw [hg] at hx
        have hx : D.str s = x := Option.some.inj hx
        subst hx
        refine ⟨_, tg_name, ?_⟩
        have hc : (byTo R i).count s ≤ 20 := by
          have h1 : (byTo R i).count s ≤ (byTo R i).length := List.count_le_length
          omega
        refine st_let (ev_call ((dueQ R s (i + 1), ((((byTo R i).count s : Nat) : Int) : Rat)) : Q2) (ea_cons (eu_ixT (ev_call ((R, s) : Rounds × Str) (ea_cons (ev_v rfl) (ea_cons (ev_v rfl) ea_nil)) w) (ev_v rfl) (at_due hi)) (ea_cons (ev_call (((byTo R i).count s : Nat) : Int) (ea_cons (eu_count (ev_v rfl) (ev_v rfl)) ea_nil) True.intro) ea_nil)) ⟨due_small w s _, small_nat (by omega)⟩) fun d e => ?_
        have e : d = fD (debtQ R (byTo R i) i s) := e
        subst e
        have step : bestQ R (byTo R i) i ((canQ r).take (j + 1)) = better R (byTo R i) i (bestQ R (byTo R i) i ((canQ r).take j)) s := by
          unfold bestQ
          rw [take_succ_of hg, List.foldl_append]
          rfl
        rw [step]
        cases hb : bestQ R (byTo R i) i ((canQ r).take j) with
        | none =>
          refine st_if (b := true) (et_or' (T := fun b => b = true) (et_test (eu_isN (ev_v rfl) ev_non true fun I v h => by rw [show v = .non from h]; rfl)) (fun _ => rfl) fun z => Bool.noConfusion z) (fun _ => ?_) fun z => Bool.noConfusion z
          refine st_asg (eu_tup (ds := [fD (debtQ R (byTo R i) i s), .str s]) (ea_cons (ev_v rfl) (ea_cons (ev_v rfl) ea_nil))) fun d e => ⟨.dat (.str s), .dat (fD (debtQ R (byTo R i) i s)), ?_⟩
          rw [e]
          rfl
        | some p =>
          have hp : Small p.1 := by
            rcases better_mem R (byTo R i) i _ none p hb with ⟨t, ep, _⟩ | z
            · rw [ep]; exact debt_small w (by omega) i t
            · cases z
          refine st_if (b := decide (p.1 < debtQ R (byTo R i) i s)) (eb_is (et_or (et_test (eu_isN (ev_v rfl) ev_non false fun I v h => isN_tup _ I v h)) fun _ => ev_less rfl (eu_ixT (d := fD p.1) (ev_v rfl) ev_int rfl) (ev_v rfl) hp (debt_small w (by omega) i s)) (Bool.false_or _)) (fun hb => ?_) fun hb => ?_
          · refine st_asg (eu_tup (ds := [fD (debtQ R (byTo R i) i s), .str s]) (ea_cons (ev_v rfl) (ea_cons (ev_v rfl) ea_nil))) fun d e => ⟨.dat (.str s), .dat (fD (debtQ R (byTo R i) i s)), ?_⟩
            have : better R (byTo R i) i (some p) s = some (debtQ R (byTo R i) i s, s) := by
              show (if p.1 < _ then _ else _) = _
              rw [if_pos (of_decide_eq_true hb)]
            rw [e, this]
            rfl
          · refine st_next ⟨.dat (.str s), .dat (fD (debtQ R (byTo R i) i s)), ?_⟩
            have : better R (byTo R i) i (some p) s = some p := by
              show (if p.1 < _ then _ else _) = _
              rw [if_neg (of_decide_eq_false hb)]
            rw [this]
            rfl
    · obtain ⟨x5, x6, rfl⟩ := iv
      rw [List.length_map, List.take_length, (best_some (R := R) (ps := byTo R i) (k := i) (can_ne wr)).1]
      refine st_asg (eu_catF (ev_v rfl) (eu_tupF [pickQ R (byTo R i) i (canQ r)] (ea_cons (eu_ixT (d := .str (pickQ R (byTo R i) i (canQ r))) (ev_v rfl) ev_int rfl) ea_nil)) (by rw [bl, List.length_singleton]; omega)) fun d e => ?_
      subst e
      rw [← by_succ hr]
      exact ⟨_, _, _, _, _, rfl⟩
  · obtain ⟨x2, x3, x4, x5, x6, rfl⟩ := iv
    refine st_ret (ev_v rfl) fun d e => ?_
    show d = _
    rw [e, enumD_len, List.length_map]
    rfl
theorem run_by_debts : ∀ vs H Q E, sp_by_debts K vs H Q E → t_by_debts K { nx := fun _ H' => Q .non H', rt := Q } (L2.start ["rounds", "payers", "place", "row", "best_one", "name", "debt"] vs) H := sp_run 7 rfl fun lk _ R h => st_by_debts lk R h
end
end RF

set_option Elab.async false
set_option linter.all false
set_option maxRecDepth 100000
set_option maxHeartbeats 4000000
set_option autoImplicit false
set_option exponentiation.threshold 6000
namespace RF
open PySem L2

theorem sortS_idem (xs : List Str) : sortS (sortS xs) = sortS xs := pw_unique (sortS_perm _) (sortS_sorted _) (sortS_sorted _)
theorem sort_names (R : Rounds) : sortS (namesQ R) = namesQ R := sortS_idem _
section
variable {K : PySem.W.Frag} {lk : Bool} {ρ : List Sl} {ta tb te : TE} {a b q : Rat}
/-! _law_names -/
def sp_law_names (K : PySem.W.Frag) : Sp := sp_names K
/-- slots: 0 rounds, 1 found, 2 row, 3 name, 4 weight, 5 can -/
def t_law_names (K : PySem.W.Frag) : TS := (tSeq (tAsg (eOr tDNewK tDNewT) (gName 1)) (tSeq (tFor (iSeq K (tVar 0)) (gName 2) (tFor (iSeq K (tVar 2)) (gTup K 3 (gCons (gName 3) (gCons (gName 4) (gCons (gName 5) gNil)))) (sPutU (tVar 1) (tVar 3) (tC (.bl true))))) (tRet (tCB (rSortedU K) (tCons (tVar 1) tNil)))))
theorem fold_len {α : Type} (v : α) (ks : List Key) : (dFold v [] ks).length ≤ ks.length := by
  have := dFold_len v ks []
  simpa using this
theorem st_law_names (lk : Bool) (R : Rounds) (h : preR R) : StS K lk (t_law_names K) (startS 6 [.d (rsD R)]) (Fn fun d => d = .lst ((namesQ R).map D.str)) := by
  have hl := allN_len h.2.1
  have h20 := h.1
  have cut : ∀ i, (allN (R.take i)).length ≤ 160 := fun i => by
    have z := allN_len (R := R.take i) fun r hr => h.2.1 r (List.mem_of_mem_take hr)
    have : (R.take i).length ≤ R.length := by rw [List.length_take]; omega
    omega
  refine st_newK ?_
  refine st_forq (js := [2]) (is_tup (ev_v rfl)) (fun i ρ => ∃ x2 x3 x4 x5, ρ = [.dat (rsD R), .dk (dFold (.bl true) [] ((allN (R.take i)).map Sum.inr)), x2, x3, x4, x5]) ⟨_, _, _, _, rfl⟩ (fun i x ρ1 hx iv => ?_) fun ρ' iv => ?_
  · obtain ⟨x2, x3, x4, x5, rfl⟩ := iv
    obtain ⟨r, hr, rfl⟩ := get_row hx
    have hr8 := h.2.1 r (List.mem_of_getElem? hr)
    refine ⟨_, tg_name, ?_⟩
    refine st_forD (js := [3, 4, 5]) (is_tup (ev_v rfl)) (fun j ρ => ∃ x3 x4 x5, ρ = [.dat (rsD R), .dk (dFold (.bl true) [] ((allN (R.take i) ++ (r.take j).map (·.1)).map Sum.inr)), .dat (rowD r), x3, x4, x5]) ⟨_, _, _, by rw [List.take_zero, List.map_nil, List.append_nil]; rfl⟩ (fun j x ρ1 hx iv => ?_) fun ρ' iv => ?_
    · obtain ⟨x3, x4, x5, rfl⟩ := iv
      rw [List.getElem?_map] at hx
      cases hg : r[j]? with
      | none => rw [hg] at hx; cases hx
      | some g =>
        rw [hg] at hx
        have hx : gD g = x := Option.some.inj hx
        subst hx
        refine ⟨_, tg_tup3, ?_⟩
        refine st_putK (k := .inr g.1) rfl (ev_v rfl) ev_bl ?_ fun d e => ⟨.dat (.str g.1), .dat (.int g.2.1), .dat (.int g.2.2), ?_⟩
        · have z := fold_len (D.bl true) ((allN (R.take i) ++ (r.take j).map (·.1)).map Sum.inr)
          have c := cut i
          rw [List.length_map, List.length_append, List.length_map, List.length_take] at z
          omega
        · subst e
          have e : putD (dFold (D.bl true) [] ((allN (R.take i) ++ (r.take j).map (·.1)).map Sum.inr)) (Sum.inr g.1 : Key) (D.bl true) = dFold (.bl true) [] ((allN (R.take i) ++ (r.take (j + 1)).map (·.1)).map Sum.inr) := by
            have e0 : allN (R.take i) ++ (r.take (j + 1)).map (·.1) = (allN (R.take i) ++ (r.take j).map (·.1)) ++ [g.1] := by
              rw [take_succ_of hg, List.map_append, List.append_assoc]
              rfl
            rw [e0]
            generalize allN (R.take i) ++ (r.take j).map (·.1) = zs
            rw [List.map_append, dFold_append]
            rfl
          rw [e]
          rfl
    · obtain ⟨x3, x4, x5, rfl⟩ := iv
      have e1 : r.take (r.map gD).length = r := by rw [List.length_map, List.take_length]
      have e : allN (R.take i) ++ r.map (·.1) = allN (R.take (i + 1)) := by
        unfold allN
        rw [take_succ_of hr, List.flatMap_append]
        simp
      rw [e1, e]
      exact ⟨_, _, _, _, rfl⟩
  · obtain ⟨x2, x3, x4, x5, rfl⟩ := iv
    rw [List.length_map, List.take_length]
    exact st_ret (eu_sortedO (ks := dd (allN R)) rfl (keys_dd _ _) (by have := h.2.2; omega)) fun d e => e
theorem run_law_names : ∀ vs H Q E, sp_law_names K vs H Q E → t_law_names K { nx := fun _ H' => Q .non H', rt := Q } (L2.start ["rounds", "found", "row", "name", "weight", "can"] vs) H := sp_run 6 rfl fun lk _ R h => st_law_names lk R h
/-! _law_dues -/
def dueKV (R : Rounds) : List (Key × D) := (namesQ R).map fun s => (Sum.inr s, .tup ((dueRow R s).map fD))
def sp_law_dues (K : PySem.W.Frag) : Sp := spP K false (fun R : Rounds => [.d (rsD R)]) Wf (fun R d => d = .dk (dueKV R))
/-- slots: 0 rounds, 1 found, 2 name, 3 last, 4 row_so, 5 row, 6 mine, 7 guest, 8 weight, 9 can -/
def t_law_dues (K : PySem.W.Frag) : TS := (tSeq (tAsg (eOr tDNewK tDNewT) (gName 1)) (tSeq (tFor (iSeq K (tCall (sp_law_names K) [] E0 (tCons (tVar 0) tNil))) (gName 2) (tSeq (tPar 3 4 (tCons (tTupU (tCons (tC (.int 0)) (tCons (tC (.int 1)) tNil))) (tCons (tLst tNil) tNil))) (tSeq (tFor (iSeq K (tVar 0)) (gName 5) (tSeq (tAsg (tCB (rSum K) (tCons (tLc (iSeq K (tVar 5)) (gTup K 3 (gCons (gName 7) (gCons (gName 8) (gCons (gName 9) gNil)))) (tTest (tOp (rEqU K) (tVar 7) (tVar 2))) (tVar 8) [7, 8, 9]) tNil)) (gName 6)) (tSeq (tAsg (tCall (sp_law_sum K) [] E0 (tCons (tVar 3) (tCons (tCall (sp_law_frac K) [] E0 (tCons (tVar 6) (tCons (tCB (rSum K) (tCons (tLc (iSeq K (tVar 5)) (gTup K 3 (gCons (gName 7) (gCons (gName 8) (gCons (gName 9) gNil)))) tYes (tVar 8) [7, 8, 9]) tNil)) tNil))) tNil))) (gName 3)) (tDrop (tBM K "list" rAppend (tVar 4) (tCons (tVar 3) tNil)))))) (sPutU (tVar 1) (tVar 2) (tCB (rTupU K) (tCons (tVar 4) tNil)))))) (tRet (tVar 1))))
theorem putD_new {κ α : Type} [DecidableEq κ] {kvs : List (κ × α)} {k : κ} {v : α} (h : k ∉ kvs.map (·.1)) : putD kvs k v = kvs ++ [(k, v)] := by
  unfold putD
  rw [if_neg]
  intro z
  obtain ⟨p, hp, e⟩ := List.any_eq_true.mp z
  exact h (List.mem_map.mpr ⟨p, hp, of_decide_eq_true e⟩)
theorem not_mem_take {α : Type} {xs : List α} {i : Nat} {x : α} (hn : xs.Nodup) (h : xs[i]? = some x) : x ∉ xs.take i := fun z => by
  have e := List.take_append_drop i xs
  rw [← e, List.nodup_append] at hn
  have hd : x ∈ xs.drop i := by
    obtain ⟨hl, hx⟩ := List.getElem?_eq_some_iff.mp h
    rw [List.drop_eq_getElem_cons hl, hx]
    simp
  exact hn.2.2 x z x hd rfl
theorem dueKV_put {R : Rounds} {i : Nat} {s : Str} (h : (namesQ R)[i]? = some s) : putD ((dueKV R).take i) (Sum.inr s : Key) (.tup ((dueRow R s).map fD)) = (dueKV R).take (i + 1) := by
  have e1 : (dueKV R)[i]? = some (Sum.inr s, .tup ((dueRow R s).map fD)) := by
    unfold dueKV
    rw [List.getElem?_map, h]
    rfl
  rw [take_succ_of e1]
  refine putD_new fun z => ?_
  have e2 : ((dueKV R).take i).map (·.1) = ((namesQ R).take i).map Sum.inr := by
    unfold dueKV
    rw [← List.map_take, List.map_map]
    rfl
  rw [e2] at z
  obtain ⟨t, ht, e⟩ := List.mem_map.mp z
  cases e
  exact not_mem_take (names_nodup R) h ht
theorem dueKV_keys (R : Rounds) : (dueKV R).map (·.1) = (namesQ R).map Sum.inr := by unfold dueKV; rw [List.map_map]; rfl
theorem dueKV_get {R : Rounds} {s : Str} (h : s ∈ namesQ R) : getD' (dueKV R) (Sum.inr s : Key) = some (.tup ((dueRow R s).map fD)) := by
  have key : ∀ ns : List Str, s ∈ ns → getD' (ns.map fun s => ((Sum.inr s : Key), D.tup ((dueRow R s).map fD))) (Sum.inr s) = some (.tup ((dueRow R s).map fD)) := fun ns => by
    induction ns with
    | nil => intro h; cases h
    | cons t ns ih =>
      intro h
      rw [List.map_cons, getD'_cons]
      by_cases e : t = s
      · subst e; rw [if_pos rfl]
      · rw [if_neg (fun z => e (Sum.inr.inj z))]
        exact ih ((List.mem_cons.mp h).resolve_left fun z => e z.symm)
  exact key _ h
theorem st_law_dues (lk : Bool) (R : Rounds) (w : Wf R) : StS K lk (t_law_dues K) (startS 10 [.d (rsD R)]) (Fn fun d => d = .dk (dueKV R)) := by
  have hl := w.len
  have h40 := names_len w
  refine st_newK ?_
  refine st_forq (js := [2]) (is_lst (ev_names rfl (ev_v rfl) w.preR)) (fun i ρ => ∃ x2 x3 x4 x5 x6 x7 x8 x9, ρ = [.dat (rsD R), .dk ((dueKV R).take i), x2, x3, x4, x5, x6, x7, x8, x9]) ⟨_, _, _, _, _, _, _, _, rfl⟩ (fun i x ρ1 hx iv => ?_) fun ρ' iv => ?_
  · obtain ⟨x2, x3, x4, x5, x6, x7, x8, x9, rfl⟩ := iv
    rw [List.getElem?_map] at hx
    cases hs : (namesQ R)[i]? with
    | none => rw [hs] at hx; cases hx
    | some s =>
      rw [hs] at hx
      have hx : D.str s = x := Option.some.inj hx
      subst hx
      refine ⟨_, tg_name, ?_⟩
      refine st_parLq (d := fD 0) (eu_tup (ds := [.int 0, .int 1]) (ea_cons ev_int (ea_cons ev_int ea_nil))) ?_
      refine st_forq (js := [5]) (is_tup (ev_v rfl)) (fun j ρ => ∃ x5 x6 x7 x8 x9, ρ = [.dat (rsD R), .dk ((dueKV R).take i), .dat (.str s), .dat (fD (dueQ R s j)), .lst (((dueRow R s).take j).map fD), x5, x6, x7, x8, x9]) ⟨_, _, _, _, _, rfl⟩ (fun j x ρ1 hx iv => ?_) fun ρ' iv => ?_
      · obtain ⟨x5, x6, x7, x8, x9, rfl⟩ := iv
        obtain ⟨r, hr, rfl⟩ := get_row hx
        have hj : j < R.length := (List.getElem?_eq_some_iff.mp hr).1
        have wr := w.rows r (List.mem_of_getElem? hr)
        have l8 := wr.len
        refine ⟨_, tg_name, ?_⟩
        refine st_letD (eu_sum (ns := (r.filter fun g => decide (g.1 = s)).map (·.2.1)) (ev_is (ev_guests (r := r) (ev_v rfl) (by omega) (fun g => decide (g.1 = s)) (fun g => .int g.2.1) fun g _ => ⟨et_test (eu_eqS (ev_v rfl) (ev_v rfl)), fun _ => ev_v rfl⟩) (by rw [List.map_map]; rfl))) ?_
        refine st_let (ev_call ((dueQ R s j, partQ r s) : Q2) (ea_cons (ev_v rfl) (ea_cons (ev_call ((mineQ r s, wtQ r) : TI2) (ea_cons (ev_v rfl) (ea_cons (eu_sum (ns := r.map (·.2.1)) (ev_is (ev_guests (r := r) (ev_v rfl) (by omega) (fun g => true) (fun g => .int g.2.1) fun g _ => ⟨et_yes, fun _ => ev_v rfl⟩) (by rw [List.filter_eq_self.mpr fun _ _ => rfl, List.map_map]; rfl))) ea_nil)) (wt_pre wr)) ea_nil)) ⟨due_small w s j, part_small wr s⟩) fun d e => ?_
        have e : d = fD (dueQ R s j + partQ r s) := e
        rw [← due_succ hr] at e
        subst e
        refine st_app' (P := fun x => x = fD (dueQ R s (j + 1))) rfl (ev_v rfl) (by rw [List.length_map, List.length_take, due_row_len]; omega) fun d e => ⟨.dat (rowD r), .dat (.int (mineQ r s)), x7, x8, x9, ?_⟩
        subst e
        rw [due_row_take hj]
        rfl
      · obtain ⟨x5, x6, x7, x8, x9, rfl⟩ := iv
        rw [List.length_map, ← due_row_len R s, List.take_length]
        refine st_putK (k := .inr s) rfl (ev_v rfl) (eu_tupO rfl) ?_ fun d e => ?_
        · rw [List.length_take]
          have : (dueKV R).length = (namesQ R).length := by unfold dueKV; rw [List.length_map]
          omega
        · subst e
          rw [dueKV_put hs]
          exact ⟨_, _, _, _, _, _, _, _, rfl⟩
  · obtain ⟨x2, x3, x4, x5, x6, x7, x8, x9, rfl⟩ := iv
    refine st_retK rfl ?_
    show D.dk _ = _
    have : (dueKV R).length = (namesQ R).length := by unfold dueKV; rw [List.length_map]
    rw [List.length_map, ← this, List.take_length]
theorem run_law_dues : ∀ vs H Q E, sp_law_dues K vs H Q E → t_law_dues K { nx := fun _ H' => Q .non H', rt := Q } (L2.start ["rounds", "found", "name", "last", "row_so", "row", "mine", "guest", "weight", "can"] vs) H := sp_run 10 rfl fun lk _ R h => st_law_dues lk R h
/-! _law_gap -/
def gapN (R : Rounds) (k : Nat) (s : Str) (c : Int) : Rat := absQ (dueQ R s (k + 1) - (c : Rat))
def gapG (R : Rounds) (k : Nat) (scs : List (Str × Int)) : Rat := scs.foldl (fun q sc => maxQ q (gapN R k sc.1 sc.2)) 0
abbrev GapA : Type := Rounds × Nat × List Int
def gkI (i : Int) : Key := .inl i
def sp_law_gapL (K : PySem.W.Frag) : Sp := spP K false (fun x : GapA => [.d (.dk (dueKV x.1)), .d (.int (x.2.1 : Int)), .d (.lst (x.2.2.map D.int))]) (fun x => Wf x.1 ∧ x.2.1 < x.1.length ∧ ∀ c ∈ x.2.2, c.natAbs ≤ 1000) (fun x d => d = fD (gapG x.1 x.2.1 ((namesQ x.1).zip x.2.2)))
def sp_law_gapT (K : PySem.W.Frag) : Sp := spP K false (fun x : GapA => [.d (.dk (dueKV x.1)), .d (.int (x.2.1 : Int)), .d (.tk (x.2.2.map gkI))]) (fun x => Wf x.1 ∧ x.2.1 < x.1.length ∧ ∀ c ∈ x.2.2, c.natAbs ≤ 1000) (fun x d => d = fD (gapG x.1 x.2.1 ((namesQ x.1).zip x.2.2)))
/-- counts in a list, or in a tuple -/
def sp_law_gap (K : PySem.W.Frag) : Sp := fun vs H Q E => sp_law_gapL K vs H Q E ∨ sp_law_gapT K vs H Q E
/-- slots: 0 dues_so, 1 place, 2 counts, 3 found, 4 name, 5 count, 6 gap -/
def t_law_gap (K : PySem.W.Frag) : TS := (tSeq (tAsg (tTupU (tCons (tC (.int 0)) (tCons (tC (.int 1)) tNil))) (gName 3)) (tSeq (tFor (iZipU K (tCons (tCB (rSortedU K) (tCons (tVar 0) tNil)) (tCons (tVar 2) tNil))) (gTup K 2 (gCons (gName 4) (gCons (gName 5) gNil))) (tSeq (tAsg (tCall (sp_law_less K) [] E0 (tCons (rIxU K (rIxU K (tVar 0) (tVar 4)) (tVar 1)) (tCons (tTupU (tCons (tVar 5) (tCons (tC (.int 1)) tNil))) tNil))) (gName 6)) (tSeq (tAsg (tTupU (tCons (tCB rAbs (tCons (rIxU K (tVar 6) (tC (.int 0))) tNil)) (tCons (rIxU K (tVar 6) (tC (.int 1))) tNil))) (gName 6)) (tAsg (tIf (tB (tCall (sp_law_below K) [] E0 (tCons (tVar 3) (tCons (tVar 6) tNil)))) (tVar 6) (tVar 3)) (gName 3))))) (tRet (tVar 3))))
theorem int_bq {c : Int} (h : c.natAbs ≤ 1000) : Bq 1000 (c : Rat) := ⟨by rw [Rat.num_intCast]; exact h, by rw [Rat.den_intCast]; omega⟩
theorem gapN_bq {R : Rounds} (w : Wf R) (k : Nat) (s : Str) {c : Int} (h : c.natAbs ≤ 1000) : Bq (2 ^ 900) (dueQ R s (k + 1) - (c : Rat)) := by
  refine ((due_bq w s (k + 1)).sub (int_bq h)).mono ?_
  have : (2 : Nat) ^ 900 = 2 ^ 880 * 2 ^ 20 := by rw [← Nat.pow_add]
  rw [this]
  have : (2 : Nat) ^ 20 = 1048576 := by decide
  generalize (2 : Nat) ^ 880 = x
  omega
theorem int_small {c : Int} (h : c.natAbs ≤ 1000) : Small (c : Rat) := (int_bq h).small (by decide)
theorem gapG_bq {R : Rounds} (w : Wf R) (k : Nat) (scs : List (Str × Int)) (h : ∀ x ∈ scs, x.2.natAbs ≤ 1000) : ∀ q : Rat, Bq (2 ^ 900) q → Bq (2 ^ 900) (scs.foldl (fun q sc => maxQ q (gapN R k sc.1 sc.2)) q) := by
  induction scs with
  | nil => exact fun q h => h
  | cons x xs ih => exact fun q hq => ih (fun y hy => h y (List.mem_cons_of_mem _ hy)) _ (hq.max (gapN_bq w k x.1 (h x (by simp))).abs)
theorem zip_names {R : Rounds} {cs : List Int} {i : Nat} {x : D} (h : (zipD ((namesQ R).map D.str) (cs.map D.int))[i]? = some x) : ∃ s c, ((namesQ R).zip cs)[i]? = some (s, c) ∧ x = .tup [.str s, .int c] := by
  obtain ⟨a, b, h1, h2, e⟩ := zipD_inv h
  rw [List.getElem?_map] at h1 h2
  cases hs : (namesQ R)[i]? with
  | none => rw [hs] at h1; cases h1
  | some s =>
    cases hc : cs[i]? with
    | none => rw [hc] at h2; cases h2
    | some c =>
      rw [hs] at h1
      rw [hc] at h2
      cases h1
      cases h2
      exact ⟨s, c, List.getElem?_zip_eq_some.mpr ⟨hs, hc⟩, e⟩
theorem ev_sortDues {R : Rounds} (w : Wf R) (h : EvD K lk ta ρ (.dk (dueKV R))) : EvD K lk (tCB (rSortedU K) (tCons ta tNil)) ρ (.lst ((namesQ R).map D.str)) := ev_is (eu_sortedD (ks := namesQ R) h (dueKV_keys R) (by have := names_len w; omega)) (by rw [sort_names])
theorem st_law_gapC (dc : D) (lk : Bool) (x : GapA) (hz : ∀ {ρ : List Sl}, ρ[0]? = some (.dat (.dk (dueKV x.1))) → ρ[2]? = some (.dat dc) → Wf x.1 → ItS K lk (iZipU K (tCons (tCB (rSortedU K) (tCons (tVar 0) tNil)) (tCons (tVar 2) tNil))) ρ (fun ys => ys = zipD ((namesQ x.1).map D.str) (x.2.2.map D.int))) (h : Wf x.1 ∧ x.2.1 < x.1.length ∧ ∀ c ∈ x.2.2, c.natAbs ≤ 1000) : StS K lk (t_law_gap K) (startS 7 [.d (.dk (dueKV x.1)), .d (.int (x.2.1 : Int)), .d dc]) (Fn fun d => d = fD (gapG x.1 x.2.1 ((namesQ x.1).zip x.2.2))) := by
  obtain ⟨R, k, cs⟩ := x
  obtain ⟨w, hk, hc⟩ := h
  dsimp only at w hk hc ⊢
  refine st_letD (d := fD 0) (eu_tup (ds := [.int 0, .int 1]) (ea_cons ev_int (ea_cons ev_int ea_nil))) ?_
  refine st_forq (js := [4, 5]) (hz rfl rfl w) (fun i ρ => ∃ x4 x5 x6, ρ = [.dat (.dk (dueKV R)), .dat (.int (k : Int)),   .dat dc, .dat (fD (gapG R k (((namesQ R).zip cs).take i))), x4, x5, x6]) ⟨_, _, _, rfl⟩ (fun i x ρ1 hx iv => ?_) fun ρ' iv => ?_
  · obtain ⟨x4, x5, x6, rfl⟩ := iv
    obtain ⟨s, c, hz, rfl⟩ := zip_names hx
    obtain ⟨hs, hcc⟩ := List.getElem?_zip_eq_some.mp hz
    have sm : s ∈ namesQ R := List.mem_of_getElem? hs
    have cm := hc c (List.mem_of_getElem? hcc)
    refine ⟨_, tg_tup2, ?_⟩
    refine st_let (ev_call ((dueQ R s (k + 1), (c : Rat)) : Q2) (ea_cons (eu_ixT (eu_dget (k := .inr s) (ev_v rfl) (ev_v rfl) (dueKV_get sm)) (ev_v rfl) (at_due hk)) (ea_cons (ev_whole (ev_v rfl)) ea_nil)) ⟨due_small w s _, int_small cm⟩) fun d e => ?_
    have e : d = fD (dueQ R s (k + 1) - (c : Rat)) := e
    subst e
    refine st_letD (ev_abs (ev_v rfl)) ?_
    have hb : Bq (2 ^ 900) (gapG R k (((namesQ R).zip cs).take i)) := gapG_bq w k _ (fun x hx => hc _ (List.of_mem_zip (List.mem_of_mem_take hx)).2) 0 (.zero (Nat.pos_of_ne_zero (by decide)))
    refine st_asg (ev_maxQ rfl (ev_v rfl) (ev_v rfl) (bq_small hb) (bq_small (gapN_bq w k s cm).abs)) fun d e => ?_
    have e2 : gapG R k (((namesQ R).zip cs).take (i + 1)) = maxQ (gapG R k (((namesQ R).zip cs).take i)) (gapN R k s c) := by
      unfold gapG
      rw [take_succ_of hz, List.foldl_append]
      rfl
    subst e
    refine ⟨.dat (.str s), .dat (.int c), .dat (fD (gapN R k s c)), ?_⟩
    rw [e2]
    rfl
  · obtain ⟨x4, x5, x6, rfl⟩ := iv
    refine st_ret (ev_v rfl) fun d e => ?_
    show d = _
    rw [e, zipD_len, List.length_map, List.length_map, ← List.length_zip, List.take_length]
theorem run_law_gap : ∀ vs H Q E, sp_law_gap K vs H Q E → t_law_gap K { nx := fun _ H' => Q .non H', rt := Q } (L2.start ["dues_so", "place", "counts", "found", "name", "count", "gap"] vs) H := fun vs H Q E h => by
  rcases h with h | h
  · exact sp_run 7 rfl (fun lk _ x h => st_law_gapC _ lk x (fun h0 h2 w => it_zipL (ev_sortDues w (ev_v h0)) (ev_v h2)) h) vs H Q E h
  · refine sp_run 7 rfl (fun lk _ x h => st_law_gapC _ lk x (fun h0 h2 w => ?_) h) vs H Q E h
    have z := it_zipM (ev_sortDues w (ev_v (K := K) (lk := lk) h0)) (ev_tk (ev_v h2))
    rw [List.map_map] at z
    exact z
theorem len_law_gap : ∀ vs H Q E, sp_law_gap K vs H Q E → vs.length = 3 := fun vs H Q E h => h.elim (fun z => sp_len (K := K) (enc := fun x : GapA => [.d (.dk (dueKV x.1)), .d (.int (x.2.1 : Int)), .d (.lst (x.2.2.map D.int))]) (fun _ => rfl) vs H Q E z) fun z => sp_len (K := K) (enc := fun x : GapA => [.d (.dk (dueKV x.1)), .d (.int (x.2.1 : Int)), .d (.tk (x.2.2.map gkI))]) (fun _ => rfl) vs H Q E z
end
end RF

set_option Elab.async false
set_option linter.all false
set_option maxRecDepth 100000
set_option maxHeartbeats 4000000
set_option autoImplicit false
set_option exponentiation.threshold 6000
namespace RF
open PySem L2

/-! ### greatest -/
theorem max_le {a b c : Rat} : maxQ a b ≤ c ↔ a ≤ c ∧ b ≤ c := by
  unfold maxQ
  by_cases h : a < b
  · rw [if_pos h]
    constructor
    · intro z; exact ⟨by grind, z⟩
    · exact fun z => z.2
  · rw [if_neg h]
    constructor
    · intro z; exact ⟨z, by grind⟩
    · exact fun z => z.1
theorem fold_max_le {α : Type} (f : α → Rat) (c : Rat) : ∀ (xs : List α) (q : Rat), xs.foldl (fun q x => maxQ q (f x)) q ≤ c ↔ q ≤ c ∧ ∀ x ∈ xs, f x ≤ c
  | [], q => by simp
  | x :: xs, q => by
    rw [List.foldl_cons, fold_max_le f c xs, max_le]
    constructor
    · rintro ⟨⟨a, b⟩, h⟩
      exact ⟨a, fun y hy => (List.mem_cons.mp hy).elim (fun e => e ▸ b) (h y)⟩
    · rintro ⟨a, h⟩
      exact ⟨⟨a, h x (by simp)⟩, fun y hy => h y (List.mem_cons_of_mem _ hy)⟩
theorem eq_of_ups {a b : Rat} (h : ∀ c, a ≤ c ↔ b ≤ c) : a = b := Rat.le_antisymm ((h b).mpr Rat.le_refl) ((h a).mp Rat.le_refl)
theorem unf_le {R : Rounds} {ps : List Str} {c : Rat} : unfQ R ps ≤ c ↔ 0 ≤ c ∧ ∀ s ∈ namesQ R, ∀ k, k < ps.length → gapQ R ps s k ≤ c := by
  unfold unfQ
  have key : ∀ (ns : List Str) (q : Rat), ns.foldl (fun q s => unfRow R ps s q ps.length) q ≤ c ↔ q ≤ c ∧ ∀ s ∈ ns, ∀ k, k < ps.length → gapQ R ps s k ≤ c := fun ns => by
    induction ns with
    | nil => intro q; simp
    | cons n ns ih =>
      intro q
      rw [List.foldl_cons, ih]
      unfold unfRow
      rw [fold_max_le (gapQ R ps n) c]
      constructor
      · rintro ⟨⟨a, b⟩, h⟩
        exact ⟨a, fun y hy => (List.mem_cons.mp hy).elim (fun e k hk => e ▸ b k (List.mem_range.mpr hk)) (h y)⟩
      · rintro ⟨a, h⟩
        exact ⟨⟨a, fun k hk => h n (by simp) k (List.mem_range.mp hk)⟩, fun y hy => h y (List.mem_cons_of_mem _ hy)⟩
  exact key _ _
/-- the greatest gap behind one round -/
def gapAt (R : Rounds) (ps : List Str) (k : Nat) : Rat := (namesQ R).foldl (fun q s => maxQ q (gapQ R ps s k)) 0
theorem gapG_counts (R : Rounds) (ps : List Str) (k : Nat) : gapG R k ((namesQ R).zip ((namesQ R).map fun s => ((paidQ ps s (k + 1) : Nat) : Int))) = gapAt R ps k := by
  unfold gapG gapAt
  have key : ∀ (ns : List Str) (q : Rat), (ns.zip (ns.map fun s => ((paidQ ps s (k + 1) : Nat) : Int))).foldl (fun q sc => maxQ q (gapN R k sc.1 sc.2)) q = ns.foldl (fun q s => maxQ q (gapQ R ps s k)) q := fun ns => by
    induction ns with
    | nil => intro q; rfl
    | cons n ns ih => intro q; rw [List.map_cons, List.zip_cons_cons, List.foldl_cons, List.foldl_cons, ih]; rfl
  exact key _ _
def unf2 (R : Rounds) (ps : List Str) (n : Nat) : Rat := (List.range n).foldl (fun q k => maxQ q (gapAt R ps k)) 0
theorem unf_same (R : Rounds) (ps : List Str) : unf2 R ps ps.length = unfQ R ps := eq_of_ups fun c => by
  unfold unf2
  rw [unf_le, fold_max_le (gapAt R ps) c]
  constructor
  · rintro ⟨a, h⟩
    refine ⟨a, fun s hs k hk => ?_⟩
    have z := h k (List.mem_range.mpr hk)
    unfold gapAt at z
    rw [fold_max_le (fun s => gapQ R ps s k) c] at z
    exact z.2 s hs
  · rintro ⟨a, h⟩
    refine ⟨a, fun k hk => ?_⟩
    unfold gapAt
    rw [fold_max_le (fun s => gapQ R ps s k) c]
    exact ⟨a, fun s hs => h s hs k (List.mem_range.mp hk)⟩
section
variable {K : PySem.W.Frag} {lk : Bool} {ρ : List Sl} {ta tb te : TE} {a b q : Rat} {P : D → Prop} {u : TS} {p : Po} {d : D}
/-! _law_unfair -/
def sp_law_unfair (K : PySem.W.Frag) : Sp := sp_unfairness K
/-- slots: 0 rounds, 1 payers, 2 dues_so, 3 found, 4 place, 5 counts, 6 name, 7 gap -/
def t_law_unfair (K : PySem.W.Frag) : TS := (tSeq (tPar 2 3 (tCons (tCall (sp_law_dues K) [] E0 (tCons (tVar 0) tNil)) (tCons (tTupU (tCons (tC (.int 0)) (tCons (tC (.int 1)) tNil))) tNil))) (tSeq (tFor (iRng1 (tCons (tCB (rLenU K) (tCons (tVar 1) tNil)) tNil)) (gName 4) (tSeq (tAsg (tLc (iSeq K (tCB (rSortedU K) (tCons (tVar 2) tNil))) (gName 6) tYes (tCount (tSl (slU K) (tVar 1) tNoPart (tPart (tOp (rAddU K) (tVar 4) (tC (.int 1))))) (tCons (tVar 6) tNil)) [6]) (gName 5)) (tSeq (tAsg (tCall (sp_law_gap K) [] E0 (tCons (tVar 2) (tCons (tVar 4) (tCons (tVar 5) tNil)))) (gName 7)) (tAsg (tIf (tB (tCall (sp_law_below K) [] E0 (tCons (tVar 3) (tCons (tVar 7) tNil)))) (tVar 7) (tVar 3)) (gName 3))))) (tRet (tVar 3))))
theorem gapAt_bq {R : Rounds} (w : Wf R) {ps : List Str} (hp : ps.length ≤ R.length) (k : Nat) : Bq (2 ^ 900) (gapAt R ps k) := by
  unfold gapAt
  have key : ∀ (ns : List Str) (q : Rat), Bq (2 ^ 900) q → Bq (2 ^ 900) (ns.foldl (fun q s => maxQ q (gapQ R ps s k)) q) := fun ns => by
    induction ns with
    | nil => exact fun q h => h
    | cons n ns ih => exact fun q h => ih _ (h.max (gap_bq w hp n k))
  exact key _ _ (.zero (Nat.pos_of_ne_zero (by decide)))
theorem unf2_bq {R : Rounds} (w : Wf R) {ps : List Str} (hp : ps.length ≤ R.length) (n : Nat) : Bq (2 ^ 900) (unf2 R ps n) := by
  unfold unf2
  have key : ∀ (ns : List Nat) (q : Rat), Bq (2 ^ 900) q → Bq (2 ^ 900) (ns.foldl (fun q k => maxQ q (gapAt R ps k)) q) := fun ns => by
    induction ns with
    | nil => exact fun q h => h
    | cons n ns ih => exact fun q h => ih _ (h.max (gapAt_bq w hp n))
  exact key _ _ (.zero (Nat.pos_of_ne_zero (by decide)))
theorem st_law_unfair (lk : Bool) (x : RP) (h : preRP x) : StS K lk (t_law_unfair K) (startS 8 (encRP x)) (Fn fun d => d = fD (unfQ x.1 x.2)) := by
  obtain ⟨R, ps⟩ := x
  obtain ⟨w, hp, hok⟩ := h
  dsimp only at w hp hok ⊢
  have hl := w.len
  have h40 := names_len w
  refine st_parq (a := .dk (dueKV R)) (b := fD 0) (ea_cons (ev_call R (ea_cons (ev_v rfl) ea_nil) w) (ea_cons (eu_tup (ds := [.int 0, .int 1]) (ea_cons ev_int (ea_cons ev_int ea_nil))) ea_nil)) ?_
  refine st_forq (js := [4]) (it_len (ps := ps) (ev_v rfl) (by omega)) (fun i ρ => ∃ x4 x5 x6 x7, ρ = [.dat (rsD R), .dat (.tf ps), .dat (.dk (dueKV R)), .dat (fD (unf2 R ps i)), x4, x5, x6, x7]) ⟨_, _, _, _, rfl⟩ (fun i x ρ1 hx iv => ?_) fun ρ' iv => ?_
  · obtain ⟨x4, x5, x6, x7, rfl⟩ := iv
    obtain ⟨hi, rfl⟩ := get_range hx
    rw [Int.zero_add]
    refine ⟨_, tg_name, ?_⟩
    refine st_letD (ev_is (ev_forNames (ns := namesQ R) (is_lst (ev_sortDues w (ev_v rfl))) (by omega) (fun s => .int ((paidQ ps s (i + 1) : Nat) : Int)) fun s hs => ev_count (i := 0) (j := 0) (ev_v rfl) (ev_v rfl) (ev_v rfl)) (y := .lst (((namesQ R).map fun s => ((paidQ ps s (i + 1) : Nat) : Int)).map D.int)) (by rw [List.map_map]; rfl)) ?_
    refine st_let (ev_callO (fun vs H Q E (z : sp_law_gapL K vs H Q E) => Or.inl z) ((R, i, (namesQ R).map fun s => ((paidQ ps s (i + 1) : Nat) : Int)) : GapA) (ea_cons (ev_v rfl) (ea_cons (ev_v rfl) (ea_cons (ev_v rfl) ea_nil))) ⟨w, by show i < R.length; omega, fun c hc => ?_⟩) fun d e => ?_
    · obtain ⟨s, _, rfl⟩ := List.mem_map.mp hc
      have h1 : (ps.take (i + 1)).count s ≤ (ps.take (i + 1)).length := List.count_le_length
      have h2 : (ps.take (i + 1)).length ≤ ps.length := by rw [List.length_take]; omega
      unfold paidQ
      omega
    · have e : d = fD (gapG R i ((namesQ R).zip ((namesQ R).map fun s => ((paidQ ps s (i + 1) : Nat) : Int)))) := e
      rw [gapG_counts] at e
      subst e
      refine st_asg (ev_maxQ rfl (ev_v rfl) (ev_v rfl) (bq_small (unf2_bq w hp i)) (bq_small (gapAt_bq w hp i))) fun d e => ?_
      have e2 : unf2 R ps (i + 1) = maxQ (unf2 R ps i) (gapAt R ps i) := by
        unfold unf2
        rw [List.range_succ, List.foldl_append]
        rfl
      subst e
      refine ⟨.dat (.int (i : Int)), .dat (.lst (((namesQ R).map fun s => ((paidQ ps s (i + 1) : Nat) : Int)).map D.int)), x6, .dat (fD (gapAt R ps i)), ?_⟩
      rw [e2]
      rfl
  · obtain ⟨x4, x5, x6, x7, rfl⟩ := iv
    refine st_ret (ev_v rfl) fun d e => ?_
    show d = _
    rw [e, rangeD_len, unf_same]
theorem run_law_unfair : ∀ vs H Q E, sp_law_unfair K vs H Q E → t_law_unfair K { nx := fun _ H' => Q .non H', rt := Q } (L2.start ["rounds", "payers", "dues_so", "found", "place", "counts", "name", "gap"] vs) H := sp_run 8 rfl fun lk _ x h => st_law_unfair lk x h
/-! _law_like -/
/-- no dict within, at most n deep, not long -/
def Lk : Nat → D → Prop
  | _, .non => True
  | _, .bl _ => True
  | _, .int _ => True
  | _, .str _ => True
  | n + 1, .lst xs => xs.length ≤ 1000 ∧ ∀ x ∈ xs, Lk n x
  | n + 1, .tup xs => xs.length ≤ 1000 ∧ ∀ x ∈ xs, Lk n x
  | _, _ => False
def sp_law_like (K : PySem.W.Frag) (n : Nat) : Sp := spP K false (fun d : D => [.d d, .d d]) (Lk n) (fun _ d => d = .bl true)
/-- slots: 0 one, 1 two, 2 k -/
def t_law_like (K : PySem.W.Frag) (spr_law_like : Sp) : TS := (tSeq (tIfS (tB (tCB (rIsiU K) (tCons (tVar 0) (tCons (tTupU (tCons (tC (.ty "list")) (tCons (tC (.ty "tuple")) tNil))) tNil)))) (tSeq (tIfS (tOr (tTest (tOp (rNeU K) (tCB (rIsiU K) (tCons (tVar 0) (tCons (tC (.ty "list")) tNil))) (tCB (rIsiU K) (tCons (tVar 1) (tCons (tC (.ty "list")) tNil))))) (tTest (tOp (rNeU K) (tCB (rIsiU K) (tCons (tVar 0) (tCons (tC (.ty "tuple")) tNil))) (tCB (rIsiU K) (tCons (tVar 1) (tCons (tC (.ty "tuple")) tNil)))))) (tRet (tC (.bl false))) tNext) (tSeq (tIfS (tTest (tOp (rNeU K) (tCB (rLenU K) (tCons (tVar 0) tNil)) (tCB (rLenU K) (tCons (tVar 1) tNil)))) (tRet (tC (.bl false))) tNext) (tRet (tOp (rEqU K) (tLc (iRng1 (tCons (tCB (rLenU K) (tCons (tVar 0) tNil)) tNil)) (gName 2) (tNot (tB (tCall spr_law_like [] E0 (tCons (rIxU K (tVar 0) (tVar 2)) (tCons (rIxU K (tVar 1) (tVar 2)) tNil))))) (tVar 2) [2]) (tLst tNil))))) tNext) (tSeq (tIfS (tB (tCB (rIsiU K) (tCons (tVar 1) (tCons (tTupU (tCons (tC (.ty "list")) (tCons (tC (.ty "tuple")) tNil))) tNil)))) (tRet (tC (.bl false))) tNext) (tRet (tAndV (tOp (rEqU K) (tCB (rIsiU K) (tCons (tVar 0) (tCons (tC (.ty "bool")) tNil))) (tCB (rIsiU K) (tCons (tVar 1) (tCons (tC (.ty "bool")) tNil)))) (tOp (rEqU K) (tVar 0) (tVar 1))))))
theorem like_flat (spr : Sp) (lk : Bool) (d : D) (hd : noDt d = true) (h1 : kitB (tyD d) "list" = some false) (h2 : kitB (tyD d) "tuple" = some false) (b : Bool) (h3 : kitB (tyD d) "bool" = some b) (he : flatD d d = true) (ht : eqF d d = true) : StS K lk (t_law_like K spr) (startS 3 [.d d, .d d]) (Fn fun x => x = .bl true) := by
  refine st_ifq (b := false) (et_B (ev_isi2 (ev_v rfl) hd h1 h2)) (fun z => Bool.noConfusion z) fun _ => ?_
  refine st_ifq (b := false) (et_B (ev_isi2 (ev_v rfl) hd h1 h2)) (fun z => Bool.noConfusion z) fun _ => ?_
  refine st_ret (ev_andV (eu_eqB (ev_isi (ev_v rfl) hd h3) (ev_isi (ev_v rfl) hd h3)) fun _ => eu_eq (ev_v rfl) (ev_v rfl) he) fun x e => ?_
  show x = _
  rw [e, ht]
  simp
theorem like_seq (n : Nat) (lk : Bool) (d : D) (xs : List D) (hd : noDt d = true) (b1 b2 : Bool) (h1 : kitB (tyD d) "list" = some b1) (h2 : kitB (tyD d) "tuple" = some b2) (hb : (b1 || b2) = true) (hl : xs.length ≤ 1000) (hx : ∀ x ∈ xs, Lk n x)
    (len : ∀ {te : TE} {ρ : List Sl}, EvD K lk te ρ d → EvD K lk (tCB (rLenU K) (tCons te tNil)) ρ (.int xs.length)) (ix : ∀ {te tb : TE} {ρ : List Sl} {i : Nat} {x : D}, EvD K lk te ρ d → EvD K lk tb ρ (.int (i : Int)) → xs[i]? = some x → EvD K lk (rIxU K te tb) ρ x) :
    StS K lk (t_law_like K (sp_law_like K n)) (startS 3 [.d d, .d d]) (Fn fun x => x = .bl true) := by
  refine st_ifq (b := true) (eb_is (et_B (ev_isi2 (ev_v rfl) hd h1 h2)) hb) (fun _ => ?_) fun z => Bool.noConfusion z
  refine st_assoc ?_
  refine st_ifq (b := false) (eb_is (et_or (et_test (eu_neB (ev_isi (ev_v rfl) hd h1) (ev_isi (ev_v rfl) hd h1))) fun _ => et_test (eu_neB (ev_isi (ev_v rfl) hd h2) (ev_isi (ev_v rfl) hd h2))) (by simp)) (fun z => Bool.noConfusion z) fun _ => ?_
  refine st_nextq (st_assoc ?_)
  refine st_ifq (b := false) (eb_is (et_test (eu_neI (len (ev_v rfl)) (len (ev_v rfl)))) (by simp)) (fun z => Bool.noConfusion z) fun _ => ?_
  refine st_nextq ?_
  have rng : ∀ {ρ : List Sl}, ρ[0]? = some (.dat d) → ItS K lk (iRng1 (tCons (tCB (rLenU K) (tCons (tVar 0) tNil)) tNil)) ρ (fun ys => ys = rangeD 0 xs.length) := fun {ρ} h0 => by
    have z := it_range1 (K := K) (lk := lk) (ρ := ρ) (n := (xs.length : Int)) (ea_cons (len (ev_v h0)) ea_nil) (by omega) (by omega)
    rw [Int.toNat_natCast] at z
    exact z
  refine st_retq (eu_eqD 1 (ev_lcD (js := [2]) (rng rfl) (fun _ => false) (fun x => x) (by rw [rangeD_len]; omega) (by decide) fun i x hi => ?_) (ev_lst (ds := []) ea_nil) ?_ (plain_nilL 0)) fun x e => ?_
  · obtain ⟨hlt, rfl⟩ := get_range hi
    rw [Int.zero_add]
    refine ⟨_, tg_name, ?_, fun z => Bool.noConfusion z⟩
    have hxi : xs[i]? = some xs[i] := List.getElem?_eq_getElem hlt
    exact et_not (a := true) (et_B (ev_call xs[i] (ea_cons (ix (ev_v rfl) (ev_v rfl) hxi) (ea_cons (ix (ev_v rfl) (ev_v rfl) hxi) ea_nil)) (hx _ (List.getElem_mem hlt))))
  · rw [List.filter_eq_nil_iff.mpr fun _ _ z => Bool.noConfusion z]
    exact plain_nilL 0
  · show x = _
    rw [e, List.filter_eq_nil_iff.mpr fun _ _ z => Bool.noConfusion z]
    rfl
theorem st_law_like : ∀ (n : Nat) (lk : Bool) (d : D), Lk (n + 1) d → StS K lk (t_law_like K (sp_law_like K n)) (startS 3 [.d d, .d d]) (Fn fun x => x = .bl true)
  | n, lk, .non, _ => like_flat _ lk .non rfl rfl rfl false rfl rfl rfl
  | n, lk, .bl b, _ => like_flat _ lk (.bl b) rfl rfl rfl true rfl rfl (by simp [eqF])
  | n, lk, .int b, _ => like_flat _ lk (.int b) rfl rfl rfl false rfl rfl (by simp [eqF])
  | n, lk, .str b, _ => like_flat _ lk (.str b) rfl rfl rfl false rfl rfl (by simp [eqF])
  | n, lk, .lst xs, h => like_seq n lk (.lst xs) xs rfl true false rfl rfl rfl h.1 h.2 (fun h => eu_lenL h) fun h1 h2 h3 => eu_ixL h1 h2 (atI_nat h3)
  | n, lk, .tup xs, h => like_seq n lk (.tup xs) xs rfl false true rfl rfl rfl h.1 h.2 (fun h => eu_lenT h) fun h1 h2 h3 => eu_ixT h1 h2 (atI_nat h3)
  | n, lk, .tk xs, h => h.elim
  | n, lk, .tf xs, h => h.elim
  | n, lk, .li xs, h => h.elim
  | n, lk, .mref _, h => h.elim
  | n, lk, .dk xs, h => h.elim
  | n, lk, .dt xs, h => h.elim
theorem st_law_like0 (spr : Sp) (lk : Bool) : ∀ (d : D), Lk 0 d → StS K lk (t_law_like K spr) (startS 3 [.d d, .d d]) (Fn fun x => x = .bl true)
  | .non, _ => like_flat _ lk .non rfl rfl rfl false rfl rfl rfl
  | .bl b, _ => like_flat _ lk (.bl b) rfl rfl rfl true rfl rfl (by simp [eqF])
  | .int b, _ => like_flat _ lk (.int b) rfl rfl rfl false rfl rfl (by simp [eqF])
  | .str b, _ => like_flat _ lk (.str b) rfl rfl rfl false rfl rfl (by simp [eqF])
  | .lst xs, h => h.elim
  | .tup xs, h => h.elim
  | .tk xs, h => h.elim
  | .tf xs, h => h.elim
  | .li xs, h => h.elim
  | .mref _, h => h.elim
  | .dk xs, h => h.elim
  | .dt xs, h => h.elim
theorem run_law_like (n : Nat) : ∀ vs H Q E, sp_law_like K (n + 1) vs H Q E → t_law_like K (sp_law_like K n) { nx := fun _ H' => Q .non H', rt := Q } (L2.start ["one", "two", "k"] vs) H := sp_run 3 rfl fun lk _ d h => st_law_like n lk d h
theorem run_law_like0 (spr : Sp) : ∀ vs H Q E, sp_law_like K 0 vs H Q E → t_law_like K spr { nx := fun _ H' => Q .non H', rt := Q } (L2.start ["one", "two", "k"] vs) H := sp_run 3 rfl fun lk _ d h => st_law_like0 spr lk d h
end
end RF

set_option Elab.async false
set_option linter.all false
set_option maxRecDepth 100000
set_option maxHeartbeats 4000000
set_option autoImplicit false
set_option exponentiation.threshold 6000
namespace RF
open PySem L2

/-! ### what is drawn: values known by a word only -/
section
variable {K : PySem.W.Frag} {lk : Bool} {ρ : List Sl} {ta tb te : TE} {P : D → Prop} {u : TS} {p : Po} {d : D}
def iD (k : Nat) : D := .int (k : Int)
def IntS (A : Int → Prop) : D → Prop := fun d => ∃ i, d = .int i ∧ A i
theorem eu_addP {A B C : Int → Prop} (ha : EvS K lk ta ρ (IntS A)) (hb : EvS K lk tb ρ (IntS B)) (h : ∀ i j, A i → B j → C (i + j)) : EvS K lk (tOp (rAddU K) ta tb) ρ (IntS C) := ev_op ha hb fun x y ⟨i, ei, ai⟩ ⟨j, ej, bj⟩ => by
  subst ei ej
  exact rvl fun w v u ok _ r1 r2 Q g => ⟨i, j, r1, r2, g.here (d := .int (i + j)) ok rfl ⟨_, rfl, h i j ai bj⟩⟩
theorem ev_intP {i : Int} {A : Int → Prop} (h : A i) : EvS K lk (tC (.int i)) ρ (IntS A) := ev_int.imp fun d e => ⟨i, e, h⟩
theorem ev_isP {i : Int} {A : Int → Prop} (h : EvD K lk te ρ (.int i)) (a : A i) : EvS K lk te ρ (IntS A) := h.imp fun d e => ⟨i, e, a⟩
theorem ev_gtP {A : Int → Prop} {B : Bool → Prop} {j : Int} (ha : EvS K lk ta ρ (IntS A)) (hb : EvD K lk tb ρ (.int j)) (h : ∀ i, A i → B (decide (j < i))) : EvS K lk (tOp rGtI ta tb) ρ (fun d => ∃ b, d = .bl b ∧ B b) := ev_op ha hb fun x y ⟨i, ei, ai⟩ ej => by
  subst ei ej
  exact fun w v u ok _ r1 r2 Q g => ⟨i, j, r1, r2, g.here (d := .bl (decide (j < i))) ok rfl ⟨_, rfl, h i ai⟩⟩
theorem eu_eqP {A : Int → Prop} {B : Bool → Prop} {j : Int} (ha : EvS K lk ta ρ (IntS A)) (hb : EvD K lk tb ρ (.int j)) (h : ∀ i, A i → B (decide (i = j))) : EvS K lk (tOp (rEqU K) ta tb) ρ (fun d => ∃ b, d = .bl b ∧ B b) := ev_op ha hb fun x y ⟨i, ei, ai⟩ ej => by
  subst ei ej
  exact rvl fun w v u ok _ r1 r2 Q g => by
    obtain ⟨s1, s2⟩ := scal_of (x := .int i) (y := .int j) rfl r1 r2
    exact ⟨s1, by rw [s2]; exact g.here (d := .bl (decide (i = j))) ok rfl ⟨_, rfl, h i ai⟩⟩
theorem eu_intBP {B : Bool → Prop} (h : EvS K lk ta ρ (fun d => ∃ b, d = .bl b ∧ B b)) : EvS K lk (tCB rInt1 (tCons ta tNil)) ρ (fun d => ∃ b, d = .int (if b then 1 else 0) ∧ B b) := fun w0 w σ s Q g => h w0 w σ s _ fun v w1 x l1 ok1 r1 ⟨b, e, hb⟩ => by
  subst e
  have ev : v = .bl b := r1
  subst ev
  exact .inr ⟨b, rfl, (g.up l1).here (d := .int (if b then 1 else 0)) ok1 rfl ⟨b, rfl, hb⟩⟩
theorem eu_ixLP {ds : List D} {A : Int → Prop} (ha : EvD K lk ta ρ (.lst ds)) (hb : EvS K lk tb ρ (IntS A)) (h : ∀ i, A i → ∃ d, atI ds i = some d ∧ P d) : EvS K lk (rIxU K ta tb) ρ P := ev_r (ev_l (ev_op ha hb fun x y ex ⟨i, ei, ai⟩ => by
  subst ex ei
  intro w v u ok _ r1 r2 Q q
  obtain ⟨a, xs, e, s, r⟩ := r1
  obtain ⟨d, hd, pd⟩ := h i ai
  obtain ⟨z, h1, h2⟩ := at_rp r hd
  exact ⟨a, xs, i, z, e, r2, sqL_keeps (.of_same ok.sub) s, h1, q.here ok h2 pd⟩))
theorem eu_ixTP {ds : List D} {A : Int → Prop} (ha : EvD K lk ta ρ (.tup ds)) (hb : EvS K lk tb ρ (IntS A)) (h : ∀ i, A i → ∃ d, atI ds i = some d ∧ P d) : EvS K lk (rIxU K ta tb) ρ P := ev_l (ev_op ha hb fun x y ex ⟨i, ei, ai⟩ => by
  subst ex ei
  intro w v u ok _ r1 r2 Q q
  obtain ⟨a, xs, e, s, r⟩ := r1
  obtain ⟨d, hd, pd⟩ := h i ai
  obtain ⟨z, h1, h2⟩ := at_rp r hd
  exact ⟨a, xs, i, z, e, r2, sqT_keeps (.of_same ok.sub) s, h1, q.here ok h2 pd⟩)
/-- t[:e], e drawn -/
theorem eu_toP {A : Int → Prop} {T : List D → Prop} (h : EvS K lk te ρ (fun d => ∃ xs, d = .tup xs ∧ T xs)) (hh : EvS K lk tb ρ (IntS A)) (hA : ∀ i, A i → 0 ≤ i) (hP : ∀ (xs : List D) (n : Nat), T xs → A (n : Int) → P (.tup (xs.take n))) : EvS K lk (tSl (slU K) te tNoPart (tPart tb)) ρ P := fun w0 w σ s Q g =>
  h w0 w σ s _ fun v w1 d l1 ok1 r1 ⟨xs, e, tx⟩ => (hh w0 w1 σ (s.mono l1 ok1) _ fun v2 w3 d2 l3 ok3 r3 ⟨i, e2, ai⟩ => by
    subst e e2
    obtain ⟨n, rfl⟩ : ∃ n : Nat, i = n := ⟨i.toNat, by have := hA i ai; omega⟩
    refine ⟨(n : Int), r3, ?_⟩
    obtain ⟨a, vs, e, sq, r⟩ := r1
    have r' := r.mono l3.I
    have sq' := sqT_keeps (.of_same l3.I) sq
    have hp := hP xs n tx ai
    rw [← cut_to] at hp
    refine .inl ⟨a, vs, e, sqTH ok3 sq', fun z => ?_, fun _ p hn => ?_⟩
    · rw [r.length] at z
      exact (g.up (l1.trans l3)).here (d := .tup (cutD xs none (some (n : Int)))) ok3 (by rw [cut_whole z]; exact ⟨a, vs, rfl, sq', r'⟩) hp
    · exact (g.up (l1.trans l3)).new (d := .tup (cutD xs none (some (n : Int)))) ok3 hn True.intro ⟨p, _, rfl, .inl (.inl upd_same), (r'.cut none (some (n : Int))).mono (same_new (notI ok3 hn))⟩ hp)
theorem is_tupP {T : List D → Prop} (h : EvS K lk te ρ (fun d => ∃ xs, d = .tup xs ∧ T xs)) : ItS K lk (iSeq K te) ρ T := itl fun w0 w σ s R k => h w0 w σ s _ fun v w1 d l1 ok1 r1 ⟨xs, e, tx⟩ => by
  subst e
  obtain ⟨a, vs, e, sq, r⟩ := r1
  refine ⟨a, e, ⟨vs, sqTH ok1 sq⟩, k _ w1 xs l1 ok1 tx ⟨fun i w' ok' sm hi => ?_, fun i w' v' H' ok' sm y x hx => ?_, fun w' ok' sm => ?_⟩⟩
  · have hi' : i < vs.length := by rw [r.length]; exact hi
    exact ⟨vs, vs[i], sqTH ok' (sqT_keeps (.of_same sm) sq), List.getElem?_eq_getElem hi'⟩
  · obtain ⟨e', y⟩ := y
    obtain ⟨u, hu, ru⟩ := r.get hx
    have z := y vs (sqTH ok' (sqT_keeps (.of_same sm) sq))
    rw [hu] at z
    cases z
    exact ⟨w', e'.symm, .refl w', ok', ru.mono sm⟩
  · exact ⟨vs, sqTH ok' (sqT_keeps (.of_same sm) sq), Nat.le_of_eq r.length⟩
theorem it_rangeP {A : Int → Prop} (h : EvS K lk te ρ (IntS A)) (hA : ∀ i, A i → 0 ≤ i ∧ i ≤ 100000) : ItS K lk (iRng1 (tCons te tNil)) ρ (fun ys => ∃ n : Nat, ys = rangeD 0 n ∧ A (n : Int)) := fun w0 w σ s R k => h w0 w σ s _ fun v w1 d l1 ok1 r1 ⟨i, e, ai⟩ => by
  subst e
  have ev : v = .int i := r1
  subst ev
  obtain ⟨h0, h1⟩ := hA i ai
  refine ⟨i, rfl, by omega, by omega, k _ w1 _ l1 ok1 ⟨i.toNat, rfl, ?_⟩ (yields_range 0 i.toNat)⟩
  rw [show ((i.toNat : Nat) : Int) = i by omega]
  exact ai
/-- a, b = x, y, drawn -/
theorem st_parP {i j : Nat} {A B : D → Prop} (ha : EvS K lk ta ρ A) (hb : EvS K lk tb ρ B) (k : ∀ a b, A a → B b → StS K lk u ((ρ.set i (.dat a)).set j (.dat b)) p) : StS K lk (tSeq (tPar i j (tCons ta (tCons tb tNil))) u) ρ p := fun w0 w σ E s f =>
  ha w0 w σ s _ fun v w1 a l1 ok1 r1 ca => hb w0 w1 σ (s.mono l1 ok1) _ fun v2 w2 b l2 ok2 r2 cb =>
    ⟨v, v2, rfl, k a b ca cb w0 w2 _ E ((((s.mono l1 ok1).mono l2 ok2).set i (r1.mono l2.I)).set j r2) f⟩
/-- _law_draw(tape, n) -/
theorem ev_draw {i : Nat} {n : Int} (ht : ρ[i]? = some .tape) (hn : EvD K lk te ρ (.int n)) (h0 : 0 < n) (h1 : n < 2 ^ 60) : EvS K lk (tCall (sp_law_draw K) [] E0 (tCons (tVar i) (tCons te tNil))) ρ (IntS fun r => 0 ≤ r ∧ r < n) :=
  ev_call' (fun h => Bool.noConfusion h) (ea_tape (C := fun as => as = [.d (.int n)]) (R := fun as => as = [.tp, .d (.int n)]) ht (ea_cons hn ea_nil) fun as e => by rw [e]) fun as e => ⟨n, e, ⟨h0, h1⟩, fun d ⟨r, er, hr⟩ => ⟨r, er, hr⟩⟩
theorem ev_drawP {i : Nat} {A : Int → Prop} (ht : ρ[i]? = some .tape) (hn : EvS K lk te ρ (IntS A)) (hA : ∀ n, A n → 0 < n ∧ n < 2 ^ 60) : EvS K lk (tCall (sp_law_draw K) [] E0 (tCons (tVar i) (tCons te tNil))) ρ (IntS fun r => 0 ≤ r ∧ ∃ n, A n ∧ r < n) :=
  ev_call' (fun h => Bool.noConfusion h) (ea_tape (C := fun as => ∃ n, as = [.d (.int n)] ∧ A n) (R := fun as => ∃ n, as = [.tp, .d (.int n)] ∧ A n) ht (ea_cons' hn ea_nil fun d as ⟨n, e, an⟩ e2 => ⟨n, by rw [e, e2], an⟩) fun as ⟨n, e, an⟩ => ⟨n, by rw [e], an⟩) fun as ⟨n, e, an⟩ => ⟨n, e, hA n an, fun d ⟨r, er, h0, h1⟩ => ⟨r, er, h0, n, an, h1⟩⟩
theorem it_rangeN {n : Nat} (h : EvD K lk te ρ (.int (n : Int))) (hn : n ≤ 100000) : ItS K lk (iRng1 (tCons te tNil)) ρ (fun ys => ys = rangeD 0 n) := by
  have z := it_range1 (ea_cons h ea_nil) (by omega) (by omega)
  rw [Int.toNat_natCast] at z
  exact z
/-! _law_any_order -/
def sp_law_any_order (K : PySem.W.Frag) : Sp := spP K false (fun n : Nat => [.tp, .d (.int (n : Int))]) (fun n => n ≤ 1000) (fun n d => ∃ ks : List Nat, d = .tup (ks.map iD) ∧ ks.Perm (List.range n))
/-- slots: 0 tape, 1 many, 2 found, 3 k -/
def t_law_any_order (K : PySem.W.Frag) : TS := (tSeq (tAsg (tLst tNil) (gName 2)) (tSeq (tFor (iRng1 (tCons (tVar 1) tNil)) (gName 3) (tDrop (tBM K "list" rInsert (tVar 2) (tCons (tCall (sp_law_draw K) [] E0 (tCons (tVar 0) (tCons (tOp (rAddU K) (tVar 3) (tC (.int 1))) tNil))) (tCons (tVar 3) tNil))))) (tRet (tCB (rTupU K) (tCons (tVar 2) tNil)))))
theorem st_law_any_order (lk : Bool) (n : Nat) (h : n ≤ 1000) : StS K lk (t_law_any_order K) (startS 4 [.tp, .d (.int (n : Int))]) (Fn fun d => ∃ ks : List Nat, d = .tup (ks.map iD) ∧ ks.Perm (List.range n)) := by
  refine st_own (ds := []) ea_nil ?_
  refine st_forq (js := [3]) (xs := rangeD 0 n) (it_rangeN (ev_v rfl) (by omega)) (fun i ρ => ∃ x3, ∃ ks : List Nat, ρ = [.tape, .dat (.int (n : Int)), .lst (ks.map iD), x3] ∧ ks.Perm (List.range i)) ⟨_, [], rfl, .nil⟩ (fun i x ρ1 hx iv => ?_) fun ρ' iv => ?_
  · obtain ⟨x3, ks, rfl, hp⟩ := iv
    obtain ⟨hi, rfl⟩ := get_range hx
    rw [Int.zero_add]
    have e60 : (2 : Int) ^ 60 = 1152921504606846976 := by decide
    have hlen : ks.length = i := by rw [hp.length_eq, List.length_range]
    refine ⟨_, tg_name, ?_⟩
    refine st_ins (A := fun r => 0 ≤ r ∧ r < (i : Int) + 1) (B := fun d => d = .int (i : Int)) rfl (ev_draw rfl (eu_add (ev_v rfl) ev_int) (by omega) (by omega)) (fun j hj => ⟨hj.1, by omega⟩) (ev_v rfl) (by rw [List.length_map]; omega) fun j d hj e => ?_
    subst e
    refine ⟨.dat (.int (i : Int)), ks.take j.toNat ++ [i] ++ ks.drop j.toNat, ?_, ?_⟩
    · show [Sl.tape, _, Sl.lst _, _] = _
      rw [List.map_append, List.map_append, List.map_take, List.map_drop]
      rfl
    · rw [List.range_succ, List.append_assoc]
      refine (List.perm_middle (a := i) (l₁ := ks.take j.toNat) (l₂ := ks.drop j.toNat)).trans ?_
      rw [List.take_append_drop]
      exact (List.perm_append_comm (l₁ := [i])).trans (hp.append_right [i])
  · obtain ⟨x3, ks, rfl, hp⟩ := iv
    rw [rangeD_len] at hp
    exact st_ret (eu_tupO rfl) fun d e => ⟨ks, e, hp⟩
theorem run_law_any_order : ∀ vs H Q E, sp_law_any_order K vs H Q E → t_law_any_order K { nx := fun _ H' => Q .non H', rt := Q } (L2.start ["tape", "many", "found", "k"] vs) H := sp_run 4 rfl fun lk _ n h => st_law_any_order lk n h
end
end RF

set_option Elab.async false
set_option linter.all false
set_option maxRecDepth 100000
set_option maxHeartbeats 4000000
set_option autoImplicit false
set_option exponentiation.threshold 6000
namespace RF
open PySem L2

/-! ### drawn rounds -/
structure Gs (G : List Str) : Prop where
  pos : 1 ≤ G.length
  len : G.length ≤ 12
  nd : G.Nodup
  ok : ∀ s ∈ G, PyData.strOk s = true
structure RowOf (G : List Str) (ac : Bool) (r : Row) : Prop where
  pos : 1 ≤ r.length
  len : r.length ≤ 5
  wt : ∀ g ∈ r, 1 ≤ g.2.1 ∧ g.2.1 ≤ 9
  cn : ∀ g ∈ r, g.2.2 = 0 ∨ g.2.2 = 1
  inG : ∀ g ∈ r, g.1 ∈ G
  rise : (r.map (·.1)).Pairwise ltS
  can : ∃ g ∈ r, g.2.2 = 1
  all : ac = true → ∀ g ∈ r, g.2.2 = 1
theorem rise_nodup {xs : List Str} (h : xs.Pairwise ltS) : xs.Nodup := h.imp fun {a b} hab e => by subst e; exact ltS_irrefl _ hab
theorem RowOf.wf {G : List Str} {ac : Bool} {r : Row} (hG : Gs G) (h : RowOf G ac r) : WfRow r where
  len := by have := h.len; omega
  ne := fun z => by have := h.pos; rw [z] at this; cases this
  wt := fun g hg => by
    have := h.wt g hg
    have : (2 : Int) ^ 40 = 1099511627776 := by decide
    omega
  nd := rise_nodup h.rise
  ok := fun g hg => hG.ok _ (h.inG g hg)
  can := h.can
theorem nodup_sub_len : ∀ {xs ys : List Str}, xs.Nodup → (∀ x ∈ xs, x ∈ ys) → xs.length ≤ ys.length
  | [], ys, _, _ => Nat.zero_le _
  | x :: xs, ys, h, hs => by
    rw [List.nodup_cons] at h
    have hx := hs x (by simp)
    have z := nodup_sub_len (ys := ys.erase x) h.2 fun y hy => by
      have ne : y ≠ x := fun e => h.1 (by rw [← e]; exact hy)
      exact (List.mem_erase_of_ne ne).mpr (hs y (List.mem_cons_of_mem _ hy))
    rw [List.length_erase_of_mem hx] at z
    have : 0 < ys.length := List.length_pos_of_mem hx
    rw [List.length_cons]
    omega
theorem wf_of_rows {G : List Str} {ac : Bool} {R : Rounds} (hG : Gs G) (hl : R.length ≤ 20) (h : ∀ r ∈ R, RowOf G ac r) : Wf R where
  len := hl
  rows := fun r hr => (h r hr).wf hG
  few := by
    have z := nodup_sub_len (dd_nodup (allN R)) (ys := G) fun s hs => by
      rw [dd_mem] at hs
      unfold allN at hs
      obtain ⟨r, hr, hs⟩ := List.mem_flatMap.mp hs
      obtain ⟨g, hg, rfl⟩ := List.mem_map.mp hs
      exact (h r hr).inG g hg
    have := hG.len
    omega
def nm (G : List Str) (k : Nat) : Str := G.getD k ""
theorem nm_get {G : List Str} {k : Nat} (h : k < G.length) : G[k]? = some (nm G k) := by
  unfold nm
  rw [List.getD_eq_getElem?_getD, List.getElem?_eq_getElem h]
  rfl
theorem nm_mem {G : List Str} {k : Nat} (h : k < G.length) : nm G k ∈ G := List.mem_of_getElem? (nm_get h)
theorem nodup_get : ∀ {G : List Str}, G.Nodup → ∀ {i j : Nat} {s : Str}, G[i]? = some s → G[j]? = some s → i = j
  | [], _, i, j, s, h, _ => by cases h
  | x :: xs, hn, 0, 0, s, _, _ => rfl
  | x :: xs, hn, 0, j + 1, s, h1, h2 => by
    rw [List.nodup_cons] at hn
    cases h1
    exact absurd (List.mem_of_getElem? (show xs[j]? = some x from h2)) hn.1
  | x :: xs, hn, i + 1, 0, s, h1, h2 => by
    rw [List.nodup_cons] at hn
    cases h2
    exact absurd (List.mem_of_getElem? (show xs[i]? = some x from h1)) hn.1
  | x :: xs, hn, i + 1, j + 1, s, h1, h2 => by
    rw [List.nodup_cons] at hn
    rw [nodup_get hn.2 (show xs[i]? = some s from h1) (show xs[j]? = some s from h2)]
theorem nm_nodup {G : List Str} (hG : G.Nodup) : ∀ {ks : List Nat}, ks.Nodup → (∀ k ∈ ks, k < G.length) → (ks.map (nm G)).Nodup
  | [], _, _ => .nil
  | k :: ks, h, hk => by
    rw [List.nodup_cons] at h
    rw [List.map_cons, List.nodup_cons]
    refine ⟨fun z => ?_, nm_nodup hG h.2 fun j hj => hk j (List.mem_cons_of_mem _ hj)⟩
    obtain ⟨j, hj, e⟩ := List.mem_map.mp z
    have h1 := nm_get (hk k (by simp))
    have h2 := nm_get (hk j (List.mem_cons_of_mem _ hj))
    rw [e] at h2
    exact h.1 (nodup_get hG h1 h2 ▸ hj)
theorem sorted_rise {xs : List Str} (h : xs.Nodup) : (sortS xs).Pairwise ltS := by
  have h1 := sortS_sorted xs
  have h2 : (sortS xs).Nodup := (sortS_perm xs).nodup_iff.mpr h
  refine (h1.and h2).imp fun {a b} hab => ?_
  rcases ltS_total a b with z | z | z
  · exact z
  · exact absurd z hab.2
  · exact absurd z (leS_iff.mp hab.1)
section
variable {K : PySem.W.Frag} {lk : Bool} {ρ : List Sl} {ta tb te : TE} {P : D → Prop} {u : TS} {p : Po} {d : D}
theorem eu_sortedP {S : List Str → Prop} (h : EvS K lk ta ρ (fun d => ∃ ks : List Str, d = .lst (ks.map D.str) ∧ S ks)) (hl : ∀ ks, S ks → ks.length < 64) : EvS K lk (tCB (rSortedU K) (tCons ta tNil)) ρ (fun d => ∃ ks : List Str, d = .lst ((sortS ks).map D.str) ∧ S ks) :=
  ev_cb (C := fun as => ∃ ks : List Str, as = [.d (.lst (ks.map D.str))] ∧ S ks) (ea_cons' h ea_nil fun d as ⟨ks, e, s⟩ e2 => ⟨ks, by rw [e, e2], s⟩) fun as ⟨ks, e, s⟩ => by
    subst e
    exact rcl fun w vs ok _ r Q gq => by
      obtain ⟨v, e, r⟩ := ars_one r
      obtain ⟨a, us, e2, sq, r2⟩ := r
      rw [r2.strs] at sq
      refine ⟨a, ks, by rw [e, e2], sqLH ok sq, hl ks s, fun ys p hp hs hn => ?_⟩
      rw [sortS_unique hp hs]
      exact gq.new (d := .lst ((sortS ks).map D.str)) ok hn True.intro ⟨p, _, rfl, .inl (.inl upd_same), RpL.of_strs _⟩ ⟨ks, rfl, s⟩
/-! _law_round -/
abbrev RoundA : Type := List Str × Bool
def encRound (x : RoundA) : List Ar := [.tp, .d (.lst (x.1.map D.str)), .d (.bl x.2)]
def sp_law_round (K : PySem.W.Frag) : Sp := spP K false encRound (fun x => Gs x.1) (fun x d => ∃ r, d = rowD r ∧ RowOf x.1 x.2 r)
/-- slots: 0 tape, 1 guests, 2 all_can, 3 many, 4 some, 5 at, 6 sole, 7 top, 8 found, 9 name, 10 can -/
def t_law_round (K : PySem.W.Frag) : TS := (tSeq (tAsg (tOp (rAddU K) (tC (.int 1)) (tCall (sp_law_draw K) [] E0 (tCons (tVar 0) (tCons (tCB rMin2 (tCons (tC (.int 5)) (tCons (tCB (rLenU K) (tCons (tVar 1) tNil)) tNil))) tNil)))) (gName 3)) (tSeq (tAsg (tCB (rSortedU K) (tCons (tLc (iSeq K (tSl (slU K) (tCall (sp_law_any_order K) [] E0 (tCons (tVar 0) (tCons (tCB (rLenU K) (tCons (tVar 1) tNil)) tNil))) tNoPart (tPart (tVar 3)))) (gName 5) tYes (rIxU K (tVar 1) (tVar 5)) [5]) tNil)) (gName 4)) (tSeq (tPar 6 7 (tCons (tCall (sp_law_draw K) [] E0 (tCons (tVar 0) (tCons (tVar 3) tNil))) (tCons (rIxU K (tLst (tCons (tC (.int 1)) (tCons (tC (.int 3)) (tCons (tC (.int 9)) tNil)))) (tCall (sp_law_draw K) [] E0 (tCons (tVar 0) (tCons (tC (.int 3)) tNil)))) tNil))) (tSeq (tAsg (tLst tNil) (gName 8)) (tSeq (tFor (iEnumU K (tCons (tVar 4) tNil)) (gTup K 2 (gCons (gName 5) (gCons (gName 9) gNil))) (tSeq (tAsg (tIf (tOr (tB (tVar 2)) (tTest (tOp (rEqU K) (tVar 5) (tVar 6)))) (tC (.int 1)) (tCB rInt1 (tCons (tOp rGtI (tCall (sp_law_draw K) [] E0 (tCons (tVar 0) (tCons (tC (.int 4)) tNil))) (tC (.int 0))) tNil))) (gName 10)) (tDrop (tBM K "list" rAppend (tVar 8) (tCons (tTupU (tCons (tVar 9) (tCons (tOp (rAddU K) (tC (.int 1)) (tCall (sp_law_draw K) [] E0 (tCons (tVar 0) (tCons (tVar 7) tNil)))) (tCons (tVar 10) tNil)))) tNil))))) (tRet (tCB (rTupU K) (tCons (tVar 8) tNil))))))))
/-- what the row is while it is made: of the names ns, the first i -/
structure Mk (G ns : List Str) (ac : Bool) (sole : Int) (i : Nat) (gs : Row) : Prop where
  nms : gs.map (·.1) = ns.take i
  wt : ∀ g ∈ gs, 1 ≤ g.2.1 ∧ g.2.1 ≤ 9
  cn : ∀ g ∈ gs, g.2.2 = 0 ∨ g.2.2 = 1
  can : sole < (i : Int) → ∃ g ∈ gs, g.2.2 = 1
  all : ac = true → ∀ g ∈ gs, g.2.2 = 1
theorem Mk.snoc {G ns : List Str} {ac : Bool} {sole : Int} {i : Nat} {gs : Row} {s : Str} {w c : Int} (m : Mk G ns ac sole i gs) (hs : ns[i]? = some s) (hw : 1 ≤ w ∧ w ≤ 9) (hc : c = 0 ∨ c = 1) (h1 : (ac = true ∨ (i : Int) = sole) → c = 1) : Mk G ns ac sole (i + 1) (gs ++ [(s, w, c)]) where
  nms := by rw [List.map_append, m.nms, take_succ_of hs]; rfl
  wt := fun g hg => (List.mem_append.mp hg).elim (m.wt g) fun z => by rw [List.mem_singleton.mp z]; exact hw
  cn := fun g hg => (List.mem_append.mp hg).elim (m.cn g) fun z => by rw [List.mem_singleton.mp z]; exact hc
  can := fun h => by
    by_cases z : sole < (i : Int)
    · obtain ⟨g, hg, e⟩ := m.can z
      exact ⟨g, List.mem_append_left _ hg, e⟩
    · exact ⟨(s, w, c), by simp, h1 (.inr (by omega))⟩
  all := fun h g hg => (List.mem_append.mp hg).elim (m.all h g) fun z => by rw [List.mem_singleton.mp z]; exact h1 (.inl h)
theorem st_law_round (lk : Bool) (x : RoundA) (hG : Gs x.1) : StS K lk (t_law_round K) (startS 11 (encRound x)) (Fn fun d => ∃ r, d = rowD r ∧ RowOf x.1 x.2 r) := by
  obtain ⟨G, ac⟩ := x
  dsimp only at hG ⊢
  have g1 := hG.pos
  have g8 := hG.len
  have e60 : (2 : Int) ^ 60 = 1152921504606846976 := by decide
  have lenG : ∀ {ρ : List Sl}, ρ[1]? = some (.dat (.lst (G.map D.str))) → EvD K lk (tCB (rLenU K) (tCons (tVar 1) tNil)) ρ (.int (G.length : Int)) := fun {ρ} h => ev_is (eu_lenL (ev_v h)) (by rw [List.length_map])
  refine st_let (eu_addP (A := fun i => i = 1) (B := fun r => 0 ≤ r ∧ r < (if (G.length : Int) < 5 then (G.length : Int) else 5)) (C := fun m => 1 ≤ m ∧ m ≤ 5 ∧ m ≤ (G.length : Int)) (ev_intP rfl) (ev_draw rfl (eu_min2 ev_int (lenG rfl)) (by split <;> omega) (by split <;> omega)) fun i j hi hj => by subst hi; obtain ⟨h1, h2⟩ := hj; split at h2 <;> omega) fun d hd => ?_
  obtain ⟨m, rfl, m1, m5, mG⟩ := hd
  refine st_let (eu_sortedP (S := fun ns => ns.Nodup ∧ (∀ s ∈ ns, s ∈ G) ∧ (ns.length : Int) = m) ?_ fun ks h => by have := h.2.2; omega) fun d hd => ?_
  · refine ev_lc (js := [5]) (X := fun xs => ∃ ks : List Nat, xs = ks.map iD ∧ ks.Nodup ∧ (∀ k ∈ ks, k < G.length) ∧ (ks.length : Int) = m) (is_tupP (eu_toP (A := fun i => i = m) (T := fun xs => ∃ ks : List Nat, xs = ks.map iD ∧ ks.Perm (List.range G.length)) ?_ (ev_isP (ev_v rfl) rfl) (fun i e => by omega) fun xs n hx hn => ?_)) (fun xs i ys => ∃ ks : List Nat, xs = ks.map iD ∧ ys = ((ks.take i).map (nm G)).map D.str) (fun xs ⟨ks, e, _⟩ => ⟨ks, e, rfl⟩) (fun xs ⟨ks, e, _, _, h⟩ => by rw [e, List.length_map]; omega) (by decide) (fun xs i x ys hX hx ha => ?_) fun xs ys hX ha => ?_
    · refine ev_call' (fun h => Bool.noConfusion h) (ea_tape (C := fun as => as = [.d (.int (G.length : Int))]) (R := fun as => as = [.tp, .d (.int (G.length : Int))]) rfl (ea_cons (lenG rfl) ea_nil) fun as e => by rw [e]) fun as e => ⟨G.length, e, by omega, fun d ⟨ks, ed, hp⟩ => ⟨ks.map iD, ed, ks, rfl, hp⟩⟩
    · obtain ⟨ks, rfl, hp⟩ := hx
      refine ⟨_, rfl, ks.take n, by rw [List.map_take], ?_, fun k hk => ?_, ?_⟩
      · exact (List.take_sublist n ks).nodup (hp.nodup_iff.mpr List.nodup_range)
      · exact List.mem_range.mp (hp.mem_iff.mp (List.mem_of_mem_take hk))
      · rw [List.length_take, hp.length_eq, List.length_range]
        omega
    · obtain ⟨ks, rfl, h1, h2, h3⟩ := hX
      obtain ⟨ks', e', rfl⟩ := ha
      rw [List.getElem?_map] at hx
      cases hk : ks[i]? with
      | none => rw [hk] at hx; cases hx
      | some k =>
        rw [hk] at hx
        have hx : iD k = x := Option.some.inj hx
        subst hx
        have kl := h2 k (List.mem_of_getElem? hk)
        have e' : ks = ks' := by
          have := congrArg (List.map fun d => match d with | D.int i => i.toNat | _ => 0) e'
          rw [List.map_map, List.map_map] at this
          have idk : ∀ l : List Nat, l.map ((fun d => match d with | D.int i => i.toNat | _ => 0) ∘ iD) = l := fun l => by
            conv => rhs; rw [← List.map_id l]
            rfl
          rw [idk, idk] at this
          exact this
        subst e'
        refine ⟨_, _, tg_name, et_yes, (fun z => Bool.noConfusion z), fun _ => (eu_ixL (d := .str (nm G k)) (ev_v rfl) (ev_v rfl) (atI_nat (by rw [List.getElem?_map, nm_get kl]; rfl))).imp fun d ed => ⟨ks, rfl, ?_⟩⟩
        rw [ed, take_succ_of hk, List.map_append, List.map_append]
        rfl
    · obtain ⟨ks, rfl, h1, h2, h3⟩ := hX
      obtain ⟨ks', e', rfl⟩ := ha
      have e' : ks = ks' := by
        have := congrArg (List.map fun d => match d with | D.int i => i.toNat | _ => 0) e'
        rw [List.map_map, List.map_map] at this
        have idk : ∀ l : List Nat, l.map ((fun d => match d with | D.int i => i.toNat | _ => 0) ∘ iD) = l := fun l => by
          conv => rhs; rw [← List.map_id l]
          rfl
        rw [idk, idk] at this
        exact this
      subst e'
      refine ⟨ks.map (nm G), by rw [List.length_map, List.take_length], nm_nodup hG.nd h1 h2, fun s hs => ?_, by rw [List.length_map]; exact h3⟩
      obtain ⟨k, hk, rfl⟩ := List.mem_map.mp hs
      exact nm_mem (h2 k hk)
  obtain ⟨ns, rfl, hn, hs, hm⟩ := hd
  have rise := sorted_rise hn
  have sl : (sortS ns).length = ns.length := (sortS_perm ns).length_eq
  have sG : ∀ s ∈ sortS ns, s ∈ G := fun s h => hs s ((sortS_perm ns).mem_iff.mp h)
  refine st_parP (A := IntS fun r => 0 ≤ r ∧ r < m) (B := IntS fun t => t = 1 ∨ t = 3 ∨ t = 9) (ev_draw rfl (ev_v rfl) (by omega) (by omega)) (eu_ixLP (ds := [.int 1, .int 3, .int 9]) (A := fun r => 0 ≤ r ∧ r < 3) (ev_lst (ds := [.int 1, .int 3, .int 9]) (ea_cons ev_int (ea_cons ev_int (ea_cons ev_int ea_nil)))) (ev_draw rfl ev_int (by decide) (by decide)) fun i hi => ?_) fun d1 d2 ⟨sole, e1, hsole⟩ ⟨top, e2, htop⟩ => ?_
  · have : i = 0 ∨ i = 1 ∨ i = 2 := by omega
    rcases this with rfl | rfl | rfl
    · exact ⟨_, rfl, 1, rfl, .inl rfl⟩
    · exact ⟨_, rfl, 3, rfl, .inr (.inl rfl)⟩
    · exact ⟨_, rfl, 9, rfl, .inr (.inr rfl)⟩
  subst e1 e2
  refine st_own (ds := []) ea_nil ?_
  refine st_forq (js := [5, 9]) (it_enumL (ev_v rfl)) (fun i ρ => ∃ x5 x9 x10, ∃ gs : Row, ρ = [.tape, .dat (.lst (G.map D.str)), .dat (.bl ac), .dat (.int m), .dat (.lst ((sortS ns).map D.str)), x5, .dat (.int sole), .dat (.int top), .lst (gs.map gD), x9, x10] ∧ Mk G (sortS ns) ac sole i gs) ⟨_, _, _, [], rfl, rfl, (fun g hg => by cases hg), (fun g hg => by cases hg), (fun h => by omega), fun _ g hg => by cases hg⟩ (fun i x ρ1 hx iv => ?_) fun ρ' iv => ?_
  · obtain ⟨x5, x9, x10, gs, rfl, mk⟩ := iv
    obtain ⟨x0, hx0, rfl⟩ := enumD_inv hx
    rw [List.getElem?_map] at hx0
    cases hs : (sortS ns)[i]? with
    | none => rw [hs] at hx0; cases hx0
    | some s =>
      rw [hs] at hx0
      have hx0 : D.str s = x0 := Option.some.inj hx0
      subst hx0
      have il : i < (sortS ns).length := (List.getElem?_eq_some_iff.mp hs).1
      have gl : gs.length ≤ 1000 := by
        have := congrArg List.length mk.nms
        rw [List.length_map, List.length_take] at this
        omega
      refine ⟨_, tg_tup2, ?_⟩
      refine st_let (P := IntS fun c => (c = 0 ∨ c = 1) ∧ ((ac = true ∨ (i : Int) = sole) → c = 1)) (ev_if (b := ac || decide ((i : Int) = sole)) (et_or (et_B (ev_v rfl)) fun _ => et_test (eu_eqI (ev_v rfl) (ev_v rfl))) (fun h => ev_intP ⟨.inr rfl, fun _ => rfl⟩) fun h => ?_) fun d ⟨c, e, hc0, hc1⟩ => ?_
      · rw [Bool.or_eq_false_iff] at h
        refine (eu_intBP (B := fun _ => True) (ev_gtP (A := fun r => 0 ≤ r ∧ r < 4) (ev_draw rfl ev_int (by decide) (by decide)) ev_int fun i _ => True.intro)).imp fun d ⟨b, e, _⟩ => ⟨_, e, ?_, fun z => ?_⟩
        · cases b
          · exact .inl rfl
          · exact .inr rfl
        · rcases z with z | z
          · rw [z] at h; exact absurd h.1 (by decide)
          · exact absurd z (of_decide_eq_false h.2)
      · subst e
        refine st_app' (P := fun d => ∃ w, d = gD (s, w, c) ∧ 1 ≤ w ∧ w ≤ 9) rfl (eu_tup' (ea_cons' (A := fun d => d = .str s) (ev_v rfl) (ea_cons' (A := IntS fun w => 1 ≤ w ∧ w ≤ 9) (C := fun as => as = [.d (.int c)]) (R := fun as => ∃ w, as = [.d (.int w), .d (.int c)] ∧ 1 ≤ w ∧ w ≤ 9) (eu_addP (A := fun i => i = 1) (B := fun r => 0 ≤ r ∧ r < top) (ev_intP rfl) (ev_draw rfl (ev_v rfl) (by omega) (by omega)) fun i j hi hj => by omega) (ea_cons (ev_v rfl) ea_nil) fun d as ⟨w, e, hw⟩ e2 => ⟨w, by rw [e, e2], hw⟩) (R := fun as => ∃ w, as = dats [.str s, .int w, .int c] ∧ 1 ≤ w ∧ w ≤ 9) fun d as e ⟨w, e2, hw⟩ => ⟨w, by rw [e, e2]; rfl, hw⟩) fun as ⟨w, e, hw⟩ => ⟨_, e, by show 3 ≤ 1000; decide, w, rfl, hw⟩) (by rw [List.length_map]; omega) fun d ⟨w, e, hw⟩ => ?_
        subst e
        refine ⟨.dat (.int (i : Nat)), .dat (.str s), .dat (.int c), gs ++ [(s, w, c)], ?_, mk.snoc hs hw hc0 hc1⟩
        rw [List.map_append]
        rfl
  · obtain ⟨x5, x9, x10, gs, rfl, mk⟩ := iv
    rw [enumD_len, List.length_map] at mk
    refine st_ret (eu_tupO rfl) fun d e => ⟨gs, e, ?_⟩
    have en := mk.nms
    rw [List.take_length] at en
    have gl : gs.length = (sortS ns).length := by rw [← en, List.length_map]
    refine ⟨by omega, by omega, mk.wt, mk.cn, fun g hg => sG _ ?_, by rw [en]; exact rise, mk.can (by omega), mk.all⟩
    rw [← en]
    exact List.mem_map.mpr ⟨g, hg, rfl⟩
theorem run_law_round : ∀ vs H Q E, sp_law_round K vs H Q E → t_law_round K { nx := fun _ H' => Q .non H', rt := Q } (L2.start ["tape", "guests", "all_can", "many", "some", "at", "sole", "top", "found", "name", "can"] vs) H := sp_run 11 rfl fun lk _ x h => st_law_round lk x h
end
end RF

set_option Elab.async false
set_option linter.all false
set_option maxRecDepth 100000
set_option maxHeartbeats 4000000
set_option autoImplicit false
set_option exponentiation.threshold 6000
namespace RF
open PySem L2

section
variable {K : PySem.W.Frag} {lk : Bool} {ρ : List Sl} {ta tb te : TE} {P : D → Prop} {u : TS} {p : Po} {d : D}
/-! _law_rounds -/
abbrev RoundsA : Type := Nat × List Str × Bool
def encRounds (x : RoundsA) : List Ar := [.tp, .d (.int (x.1 : Int)), .d (.lst (x.2.1.map D.str)), .d (.bl x.2.2)]
/-- rounds as they are drawn -/
structure RsOf (G : List Str) (ac : Bool) (most : Nat) (R : Rounds) : Prop where
  pos : 1 ≤ R.length
  len : R.length ≤ most
  rows : ∀ r ∈ R, RowOf G ac r
def sp_law_rounds (K : PySem.W.Frag) : Sp := spP K false encRounds (fun x => 1 ≤ x.1 ∧ x.1 ≤ 20 ∧ Gs x.2.1) (fun x d => ∃ R, d = rsD R ∧ RsOf x.2.1 x.2.2 x.1 R)
/-- slots: 0 tape, 1 most, 2 guests, 3 all_can, 4 k -/
def t_law_rounds (K : PySem.W.Frag) : TS := (tRet (tCB (rTupU K) (tCons (tLc (iRng1 (tCons (tOp (rAddU K) (tC (.int 1)) (tCall (sp_law_draw K) [] E0 (tCons (tVar 0) (tCons (tVar 1) tNil)))) tNil)) (gName 4) tYes (tCall (sp_law_round K) [] E0 (tCons (tVar 0) (tCons (tVar 2) (tCons (tVar 3) tNil)))) [4]) tNil)))
theorem eu_tupP {T : List D → Prop} (h : EvS K lk ta ρ (fun d => ∃ xs, d = .lst xs ∧ T xs)) : EvS K lk (tCB (rTupU K) (tCons ta tNil)) ρ (fun d => ∃ xs, d = .tup xs ∧ T xs) :=
  ev_cb (C := fun as => ∃ xs, as = [.d (.lst xs)] ∧ T xs) (ea_cons' h ea_nil fun d as ⟨xs, e, t⟩ e2 => ⟨xs, by rw [e, e2], t⟩) fun as ⟨xs, e, t⟩ => by
    subst e
    exact rcl fun w vs ok _ r Q g => by
      obtain ⟨v, e, r⟩ := ars_one r
      obtain ⟨a, us, e2, sq, r2⟩ := r
      exact ⟨a, us, by rw [e, e2], .inl ⟨sqLH ok sq, fun l hl => g.new (d := .tup xs) ok hl True.intro ⟨l, us, rfl, .inl (.inl upd_same), r2.mono (same_new (notI ok hl))⟩ ⟨xs, rfl, t⟩⟩⟩
theorem st_law_rounds (lk : Bool) (x : RoundsA) (h : 1 ≤ x.1 ∧ x.1 ≤ 20 ∧ Gs x.2.1) : StS K lk (t_law_rounds K) (startS 5 (encRounds x)) (Fn fun d => ∃ R, d = rsD R ∧ RsOf x.2.1 x.2.2 x.1 R) := by
  obtain ⟨most, G, ac⟩ := x
  obtain ⟨h1, h2, hG⟩ := h
  dsimp only at h1 h2 hG ⊢
  have e60 : (2 : Int) ^ 60 = 1152921504606846976 := by decide
  refine st_ret (eu_tupP (T := fun xs => ∃ R : Rounds, xs = R.map rowD ∧ RsOf G ac most R) ?_) fun d ⟨xs, e, R, ex, hR⟩ => ⟨R, by rw [e, ex]; rfl, hR⟩
  refine ev_lc (js := [4]) (X := fun xs => ∃ n : Nat, xs = rangeD 0 n ∧ 1 ≤ n ∧ n ≤ most) (fun w0 w σ s R k => it_rangeP (A := fun m => 1 ≤ m ∧ m ≤ (most : Int)) (eu_addP (A := fun i => i = 1) (B := fun r => 0 ≤ r ∧ r < (most : Int)) (ev_intP rfl) (ev_draw rfl (ev_v rfl) (by omega) (by omega)) fun i j hi hj => by omega) (fun i hi => by omega) w0 w σ s R fun J w' xs l ok ⟨n, e, hn⟩ Y => k J w' xs l ok ⟨n, e, by omega, by omega⟩ Y) (fun xs i ys => ∃ R : Rounds, ys = R.map rowD ∧ R.length = i ∧ ∀ r ∈ R, RowOf G ac r) (fun xs _ => ⟨[], rfl, rfl, fun r hr => by cases hr⟩) (fun xs ⟨n, e, _, hn⟩ => by rw [e, rangeD_len]; omega) (by decide) (fun xs i x ys hX hx ⟨R, ey, hl, hr⟩ => ?_) fun xs ys ⟨n, e, n1, n2⟩ ⟨R, ey, hl, hr⟩ => ?_
  · refine ⟨_, _, tg_name, et_yes, (fun z => Bool.noConfusion z), fun _ => ?_⟩
    refine ev_call' (fun h => Bool.noConfusion h) (ea_tape (C := fun as => as = [.d (.lst (G.map D.str)), .d (.bl ac)]) (R := fun as => as = encRound (G, ac)) rfl (ea_cons (ev_v rfl) (ea_cons (ev_v rfl) ea_nil)) fun as e => by rw [e]; rfl) fun as e => ⟨(G, ac), e, hG, fun d ⟨r, ed, hro⟩ => ⟨R ++ [r], ?_, ?_, ?_⟩⟩
    · rw [ey, ed, List.map_append]; rfl
    · rw [List.length_append, hl]; rfl
    · intro r' hr'
      rcases List.mem_append.mp hr' with z | z
      · exact hr r' z
      · rw [List.mem_singleton.mp z]; exact hro
  · rw [e, rangeD_len] at hl
    exact ⟨ys, rfl, R, ey, by omega, by omega, hr⟩
theorem run_law_rounds : ∀ vs H Q E, sp_law_rounds K vs H Q E → t_law_rounds K { nx := fun _ H' => Q .non H', rt := Q } (L2.start ["tape", "most", "guests", "all_can", "k"] vs) H := sp_run 5 rfl fun lk _ x h => st_law_rounds lk x h
/-! _law_payers -/
abbrev PayA : Type := Rounds × Nat
def encPay (x : PayA) : List Ar := [.tp, .d (rsD x.1), .d (.int (x.2 : Int))]
def sp_law_payers (K : PySem.W.Frag) : Sp := spP K false encPay (fun x => Wf x.1 ∧ x.2 ≤ 1000) (fun x d => ∃ ps, d = .tf ps ∧ Pays x.1 ps ∧ ps.length ≤ x.2)
/-- slots: 0 tape, 1 rounds, 2 most, 3 found, 4 row, 5 some -/
def t_law_payers (K : PySem.W.Frag) : TS := (tSeq (tAsg (tTupU tNil) (gName 3)) (tSeq (tFor (iSeq K (tSl (slU K) (tVar 1) tNoPart (tPart (tCall (sp_law_draw K) [] E0 (tCons (tVar 0) (tCons (tOp (rAddU K) (tVar 2) (tC (.int 1))) tNil)))))) (gName 4) (tSeq (tAsg (tCall (sp_law_can K) [] E0 (tCons (tVar 4) tNil)) (gName 5)) (tAsg (tOp (rAddU K) (tVar 3) (tTupU (tCons (rIxU K (tVar 5) (tCall (sp_law_draw K) [] E0 (tCons (tVar 0) (tCons (tCB (rLenU K) (tCons (tVar 5) tNil)) tNil)))) tNil))) (gName 3)))) (tRet (tVar 3))))
theorem st_law_payers (lk : Bool) (x : PayA) (h : Wf x.1 ∧ x.2 ≤ 1000) : StS K lk (t_law_payers K) (startS 6 (encPay x)) (Fn fun d => ∃ ps, d = .tf ps ∧ Pays x.1 ps ∧ ps.length ≤ x.2) := by
  obtain ⟨R, most⟩ := x
  obtain ⟨w, hm⟩ := h
  dsimp only at w hm ⊢
  have e60 : (2 : Int) ^ 60 = 1152921504606846976 := by decide
  have hl := w.len
  refine st_letD (eu_tupF [] ea_nil) ?_
  refine st_seq (fun ρ => ∃ x4 x5, ∃ ps : List Str, ρ = [.tape, .dat (rsD R), .dat (.int (most : Int)), .dat (.tf ps), x4, x5] ∧ Pays R ps ∧ ps.length ≤ most) ?_ fun ρ' iv => ?_
  · refine st_for (js := [4]) (X := fun xs => ∃ n : Nat, xs = (R.take n).map rowD ∧ n ≤ most) (is_tupP (eu_toP (A := fun r => 0 ≤ r ∧ r < (most : Int) + 1) (T := fun xs => xs = R.map rowD) ((ev_v (d := rsD R) rfl).imp fun d e => ⟨_, e, rfl⟩) (ev_draw rfl (eu_add (ev_v rfl) ev_int) (by omega) (by omega)) (fun i hi => hi.1) fun xs n ex hn => ⟨_, rfl, n, by rw [ex, List.map_take], by omega⟩)) (fun xs i ρ => ∃ x4 x5, ∃ ps : List Str, ρ = [.tape, .dat (rsD R), .dat (.int (most : Int)), .dat (.tf ps), x4, x5] ∧ Pays R ps ∧ ps.length = i) (fun xs _ => ⟨_, _, [], rfl, .nil R, rfl⟩) (fun xs i x ρ1 ⟨n, ex, hn⟩ hx ⟨x4, x5, ps, e, hp, hpl⟩ => ?_) fun xs ρ' ⟨n, ex, hn⟩ ⟨x4, x5, ps, e, hp, hpl⟩ => ?_
    · subst e
      rw [ex] at hx
      obtain ⟨r, hr, rfl⟩ := get_row hx
      have hi : i < n := by
        have := (List.getElem?_eq_some_iff.mp hr).1
        rw [List.length_take] at this
        omega
      rw [List.getElem?_take_of_lt hi] at hr
      have wr := w.rows r (List.mem_of_getElem? hr)
      have hil := (List.getElem?_eq_some_iff.mp hr).1
      have cl : 0 < (canQ r).length := List.length_pos_iff.mpr (can_ne wr)
      have c8 : (canQ r).length ≤ 8 := by
        unfold canQ
        rw [List.length_map]
        exact Nat.le_trans (List.length_filter_le _ _) wr.len
      refine ⟨_, tg_name, ?_⟩
      refine st_let (ev_call r (ea_cons (ev_v rfl) ea_nil) wr.len) fun d e => ?_
      have e : d = .lst ((canQ r).map D.str) := e
      subst e
      refine st_asg (P := fun d => ∃ s, d = .tf (ps ++ [s]) ∧ s ∈ canQ r) (ev_op (A := fun d => d = .tf ps) (B := fun d => ∃ s, d = .tf [s] ∧ s ∈ canQ r) (ev_v rfl) (eu_tupF' (ea_cons' (A := fun d => ∃ s, d = .str s ∧ s ∈ canQ r) (eu_ixLP (A := fun i => 0 ≤ i ∧ i < ((canQ r).length : Int)) (ev_v rfl) (ev_draw rfl (ev_is (eu_lenL (ev_v rfl)) (by rw [List.length_map])) (by omega) (by omega)) fun i hi => ?_) ea_nil (R := fun as => ∃ s, as = dats ([s].map D.str) ∧ s ∈ canQ r) fun d as ⟨s, e, hs⟩ e2 => ⟨s, by rw [e, e2]; rfl, hs⟩) fun as ⟨s, e, hs⟩ => ⟨[s], e, by show 1 ≤ 1000; decide, s, rfl, hs⟩) fun x y ex ⟨s, ey, hs⟩ => ?_) fun d ⟨s, e, hs⟩ => ?_
      · obtain ⟨k, rfl⟩ : ∃ k : Nat, i = k := ⟨i.toNat, by omega⟩
        have hk : k < (canQ r).length := by omega
        exact ⟨.str (canQ r)[k], atI_nat (by rw [List.getElem?_map, List.getElem?_eq_getElem hk]; rfl), _, rfl, List.getElem_mem hk⟩
      · subst ex ey
        exact rvr (rvr (rvl fun w v u ok _ r1 r2 Q g => by
          obtain ⟨a, o1, rfl, s1, d1⟩ := r1
          obtain ⟨b, o2, rfl, s2, d2⟩ := r2
          have pl := hp.1
          refine ⟨a, b, _, _, rfl, rfl, sqT_tf ok s1, sqT_tf ok s2, ?_, fun z => ?_, fun z => ?_, fun c o hc hd => ?_⟩
          · rw [List.length_map, List.length_map]
            exact Nat.le_trans (show ps.length + 1 ≤ 1001 by omega) (by decide)
          · have e : ps = [] := List.map_eq_nil_iff.mp z
            subst e
            exact g.here (d := .tf [s]) ok ⟨b, o2, rfl, s2, d2⟩ ⟨s, rfl, hs⟩
          · cases z
          · rw [← List.map_append]
            exact new_tf g ok hc hd ⟨s, rfl, hs⟩))
      · subst e
        refine ⟨.dat (rowD r), .dat (.lst ((canQ r).map D.str)), ps ++ [s], rfl, hp.snoc (by rw [hpl]; exact hr) hs, ?_⟩
        rw [List.length_append, hpl]
        rfl
    · rw [ex, List.length_map, List.length_take] at hpl
      exact ⟨x4, x5, ps, e, hp, by omega⟩
  · obtain ⟨x4, x5, ps, rfl, hp, hpl⟩ := iv
    exact st_ret (ev_v rfl) fun d e => ⟨ps, e, hp, hpl⟩
theorem run_law_payers : ∀ vs H Q E, sp_law_payers K vs H Q E → t_law_payers K { nx := fun _ H' => Q .non H', rt := Q } (L2.start ["tape", "rounds", "most", "found", "row", "some"] vs) H := sp_run 6 rfl fun lk _ x h => st_law_payers lk x h
/-- a def of which nothing is promised -/
theorem Df.calF {P : Program} {w : World} {K : PySem.W.Frag} {mg : Str → Option Value} {base : Heap} {x : Str} {st : Stmt} {N ps : List Str} (F : Df K mg x st) (S : FnScope N ps (defScope st))
    (hb : ∀ (kV doc pm : Value) (an : Option Addr) (cdv ct : Value) (us : List Value), us.length = ps.length → bindArgs (PySem.W.fnOf x x (defArgs st) (defBody st) (defScope st) .none kV doc pm an cdv ct) ⟨us, []⟩ = pure (ps.zip us)) :
    Cal P w K mg base 0 x ps (fun _ _ _ _ => False) := by
  obtain ⟨f, fd, G, m⟩ := F.ex
  exact ⟨f, fd, ⟨fun _ _ _ _ z => z.elim, fun _ _ _ _ _ _ _ _ _ _ _ _ _ z => z.elim⟩, m, G.kp, G.bindsN hb⟩
theorem fnOkD {P : Program} {w : World} {K : PySem.W.Frag} {mg : Str → Option Value} {base : Heap} {k : Nat} {x : Str} {st : Stmt} {N ps : List Str} {sp : Sp} {t : TS} {f0 : Addr} {fd : FuncData} (G : FunD K x x (defArgs st) (defBody st) (defScope st) [] [] f0 fd) (S : FnScope N ps (defScope st))
    (len : ∀ vs H Q E, sp vs H Q E → vs.length = ps.length) (run : ∀ vs H Q E, sp vs H Q E → t { nx := fun _ H' => Q .non H', rt := Q } (L2.start N vs) H)
    (der : ∀ (f : Addr) (cdv : Value) (A : Around) (outer : List Env) (s : Shared) (H : Hp) (E : XK), Room k (A.deeper (PyProof.Rows.envOfC x (defScope st) s.heap.objs.size f cdv)) → PSs (cxOf CX0 P w K mg base N x (defScope st) f cdv A outer s H E).nox (defBody st) t) : FnOk P w K mg base CX0 (k + 1) f0 fd ps sp :=
  G.ok S len fun cdv A outer s H vs Q E hr h => ⟨t, (der f0 cdv A outer s H E hr).nox, run vs H Q E h⟩
/-! ### where a law begins -/
def sp_law (K : PySem.W.Frag) : Sp := fun vs H Q _ => ∃ (a : Addr) (ns : List Int), vs = [.ref a] ∧ ns.length ≤ 63 ∧ Only H ∧ SqL K H a (ns.map V.int) ∧ ∀ H', Q (.bl true) H'
theorem only_nolock {H : Hp} (h : Only H) : NoLock H := True.intro
def t_start (K : PySem.W.Frag) : TS := tAsg (tLst (tCons (tCB (rListU K) (tCons (tVar 0) tNil)) (tCons (tC (.int 0)) (tCons (tC (.int 0)) tNil)))) (gName 1)
theorem law_run {rest : TS} {N : List Str} {n : Nat} (hN : N.length = n + 2) (h : StS K false rest (.un :: .tape :: List.replicate n .un) (Fn fun d => d = .bl true)) : ∀ vs H Q E, sp_law K vs H Q E → tSeq (t_start K) rest { nx := fun _ H' => Q .non H', rt := Q } (L2.start N vs) H := fun vs H Q E ⟨a, ns, ev, hl, hO, hS, hQ⟩ => by
  subst ev
  have e0 : L2.start N [.ref a] = some (.ref a) :: none :: List.replicate n none := by
    unfold L2.start
    rw [hN]
    rfl
  rw [e0]
  refine ⟨.ref a, rfl, a, _, rfl, .inl hS, fun l hl0 => ⟨by show 3 ≤ sizeLine; decide, fun t ht => ?_⟩⟩
  have ntl : t ≠ l := fun z => by rw [z, upd_same] at ht; cases ht
  have ht0 : H t = none := by rw [upd_ne ntl] at ht; exact ht
  let w : Wd := { I := upd H l (.lst (ns.map V.int)), H := upd (upd H l (.lst (ns.map V.int))) t (.lst [.ref l, .int 0, .int 0]), tp := some t, lk := false }
  have okw : w.Ok := by
    refine ⟨fun b o e => ?_, fun b e => ?_, fun _ => ?_, fun b xs e => ?_⟩
    · show upd _ t _ b = some o
      rw [upd_ne (ne_of_none e ht)]
      exact e
    · have e : some t = some b := e
      cases e
      exact ⟨ht, l, 0, 0, ns, upd_same, .inl upd_same, Int.le_refl _, by omega⟩
    · have n1 : NoLock (upd H l (.lst (ns.map V.int))) := NoLock.upd (only_nolock hO) (o := .lst (ns.map V.int)) True.intro
      exact NoLock.upd n1 (o := .lst [.ref l, .int 0, .int 0]) True.intro
    · have e : upd (upd H l (.lst (ns.map V.int))) t (.lst [.ref l, .int 0, .int 0]) b = some (.tup xs) := e
      by_cases z : b = t
      · rw [z, upd_same] at e; cases e
      · rw [upd_ne z] at e
        exact e
  refine h w w ((some (.ref a) :: none :: List.replicate n none).set 1 (some (.ref t))) _ ⟨rfl, .refl w, okw, ?_, fun i s e => ?_, fun i j s s' b e1 e2 o1 => ?_⟩ ⟨fun σ w' ρ' s' z => (D.noConfusion (show D.non = D.bl true from z)), fun v w' d l ok r e => ?_, fun _ _ _ _ z => z.elim, fun _ _ _ _ z => z.elim⟩
  · simp
  · match i, e with
    | 0, e => cases e; exact True.intro
    | 1, e => cases e; exact ⟨t, rfl, rfl⟩
    | m + 2, e =>
      have e : (List.replicate n Sl.un)[m]? = some s := e
      have : s = .un := List.eq_of_mem_replicate (List.mem_of_getElem? e)
      subst this
      exact True.intro
  · match i, e1 with
    | 0, e => cases e; cases o1
    | 1, e => cases e; cases o1
    | m + 2, e =>
      have e : (List.replicate n Sl.un)[m]? = some s := e
      have : s = .un := List.eq_of_mem_replicate (List.mem_of_getElem? e)
      subst this
      cases o1
  · have e : d = .bl true := e
    subst e
    rw [show v = .bl true from r]
    exact hQ _
end
end RF

set_option Elab.async false
set_option linter.all false
set_option maxRecDepth 100000
set_option maxHeartbeats 4000000
set_option autoImplicit false
set_option exponentiation.threshold 6000
namespace RF
open PySem L2
/-! ### sums -/
theorem sum_ite {ns : List Str} (hn : ns.Nodup) {g : Str} (hg : g ∈ ns) (w : Int) : (ns.map fun s => if g = s then w else 0).sum = w := by
  induction ns with
  | nil => cases hg
  | cons n ns ih =>
    rw [List.nodup_cons] at hn
    rw [List.map_cons, List.sum_cons]
    by_cases e : g = n
    · subst e
      rw [if_pos rfl]
      have z : (ns.map fun s => if g = s then w else 0).sum = 0 := by
        have : ∀ l : List Str, g ∉ l → (l.map fun s => if g = s then w else 0).sum = 0 := fun l => by
          induction l with
          | nil => intro _; rfl
          | cons a l ih =>
            intro h
            rw [List.map_cons, List.sum_cons, if_neg (fun e => h (by simp [e])), ih (fun z => h (List.mem_cons_of_mem _ z))]
            rfl
        exact this _ hn.1
      rw [z, Int.add_zero]
    · rw [if_neg e, ih hn.2 ((List.mem_cons.mp hg).resolve_left e), Int.zero_add]
theorem sum_addI {α : Type} (f g : α → Int) (xs : List α) : (xs.map fun x => f x + g x).sum = (xs.map f).sum + (xs.map g).sum := by
  induction xs with
  | nil => rfl
  | cons x xs ih => rw [List.map_cons, List.map_cons, List.map_cons, List.sum_cons, List.sum_cons, List.sum_cons, ih]; omega
theorem sum_mine {ns : List Str} (hn : ns.Nodup) : ∀ r : Row, (∀ g ∈ r, g.1 ∈ ns) → (ns.map (mineQ r)).sum = wtQ r
  | [], _ => by
    have : ∀ l : List Str, (l.map (mineQ [])).sum = 0 := fun l => by
      induction l with
      | nil => rfl
      | cons a l ih => rw [List.map_cons, List.sum_cons, ih]; rfl
    rw [this]
    rfl
  | g :: r, h => by
    have e2 : ∀ s, mineQ (g :: r) s = (if g.1 = s then g.2.1 else 0) + mineQ r s := fun s => by
      unfold mineQ
      rw [List.filter_cons]
      by_cases z : g.1 = s
      · rw [if_pos (decide_eq_true z), if_pos z, List.map_cons, List.sum_cons]
      · rw [if_neg (by rw [decide_eq_false z]; decide), if_neg z, Int.zero_add]
    have e : wtQ (g :: r) = g.2.1 + wtQ r := by unfold wtQ; rw [List.map_cons, List.sum_cons]
    rw [show mineQ (g :: r) = fun s => (if g.1 = s then g.2.1 else 0) + mineQ r s from funext e2, sum_addI, sum_ite hn (h g (by simp)), sum_mine hn r fun x hx => h x (List.mem_cons_of_mem _ hx), e]
theorem sum_count {ns : List Str} (hn : ns.Nodup) : ∀ ps : List Str, (∀ s ∈ ps, s ∈ ns) → (ns.map fun s => ((ps.count s : Nat) : Int)).sum = (ps.length : Int)
  | [], _ => by
    have : ∀ l : List Str, (l.map fun s => ((([] : List Str).count s : Nat) : Int)).sum = 0 := fun l => by
      induction l with
      | nil => rfl
      | cons a l ih => rw [List.map_cons, List.sum_cons, ih]; rfl
    rw [this]
    rfl
  | p :: ps, h => by
    have e2 : ∀ s, (((p :: ps).count s : Nat) : Int) = (if p = s then 1 else 0) + ((ps.count s : Nat) : Int) := fun s => by
      rw [List.count_cons]
      by_cases z : p = s
      · rw [if_pos (beq_iff_eq.mpr z), if_pos z]; omega
      · rw [if_neg (fun q => z (beq_iff_eq.mp q)), if_neg z]; omega
    rw [show (fun s => (((p :: ps).count s : Nat) : Int)) = fun s => (if p = s then 1 else 0) + ((ps.count s : Nat) : Int) from funext e2, sum_addI, sum_ite hn (h p (by simp)), sum_count hn ps fun x hx => h x (List.mem_cons_of_mem _ hx), List.length_cons]
    omega
/-- sums of fractions -/
def sumR (ns : List Str) (f : Str → Rat) : Rat := ns.foldl (fun q s => q + f s) 0
theorem foldl_addR (f : Str → Rat) : ∀ (ns : List Str) (q : Rat), ns.foldl (fun q s => q + f s) q = q + sumR ns f
  | [], q => by show q = q + 0; grind
  | n :: ns, q => by
    have e1 := foldl_addR f ns (q + f n)
    have e2 := foldl_addR f ns (0 + f n)
    rw [List.foldl_cons, e1]
    have e3 : sumR (n :: ns) f = ns.foldl (fun q s => q + f s) (0 + f n) := rfl
    rw [e3, e2]
    grind
theorem sumR_cons (n : Str) (ns : List Str) (f : Str → Rat) : sumR (n :: ns) f = f n + sumR ns f := by
  show ns.foldl (fun q s => q + f s) (0 + f n) = _
  rw [foldl_addR]
  grind
theorem sumR_add (ns : List Str) (f g : Str → Rat) : sumR ns (fun s => f s + g s) = sumR ns f + sumR ns g := by
  induction ns with
  | nil => show (0 : Rat) = 0 + 0; grind
  | cons n ns ih => rw [sumR_cons, sumR_cons, sumR_cons, ih]; grind
theorem sumR_sub (ns : List Str) (f g : Str → Rat) : sumR ns (fun s => f s - g s) = sumR ns f - sumR ns g := by
  induction ns with
  | nil => show (0 : Rat) = 0 - 0; grind
  | cons n ns ih => rw [sumR_cons, sumR_cons, sumR_cons, ih]; grind
theorem sumR_mul (ns : List Str) (f : Str → Rat) (c : Rat) : sumR ns (fun s => f s * c) = sumR ns f * c := by
  induction ns with
  | nil => show (0 : Rat) = 0 * c; grind
  | cons n ns ih => rw [sumR_cons, sumR_cons, ih]; grind
theorem sumR_zero (ns : List Str) : sumR ns (fun _ => 0) = 0 := by
  induction ns with
  | nil => rfl
  | cons n ns ih => rw [sumR_cons, ih]; grind
theorem sumR_int (ns : List Str) (f : Str → Int) : sumR ns (fun s => (f s : Rat)) = ((ns.map f).sum : Int) := by
  induction ns with
  | nil => rfl
  | cons n ns ih =>
    rw [sumR_cons, ih, List.map_cons, List.sum_cons]
    rw [Rat.intCast_add]
theorem part_eq {r : Row} (h : 0 < wtQ r) (s : Str) : partQ r s = (mineQ r s : Rat) * (1 / (wtQ r : Rat)) := by
  unfold partQ
  rw [Rat.mkRat_eq_div]
  have e : (((wtQ r).toNat : Nat) : Rat) = ((wtQ r : Int) : Rat) := by
    have : (((wtQ r).toNat : Nat) : Int) = wtQ r := by omega
    rw [← this]
    rfl
  rw [e]
  grind
theorem sum_part {ns : List Str} (hn : ns.Nodup) {r : Row} (h : WfRow r) (hs : ∀ g ∈ r, g.1 ∈ ns) : sumR ns (partQ r) = 1 := by
  have hp := (wt_pos h).1
  rw [show partQ r = fun s => (mineQ r s : Rat) * (1 / (wtQ r : Rat)) from funext (part_eq hp), sumR_mul, sumR_int, sum_mine hn r hs]
  have : ((wtQ r : Int) : Rat) ≠ 0 := by
    intro z
    have : wtQ r = 0 := by exact_mod_cast z
    omega
  grind
theorem mem_names {R : Rounds} {r : Row} {g : Guest} (hr : r ∈ R) (hg : g ∈ r) : g.1 ∈ namesQ R := by
  rw [names_mem]
  unfold allN
  exact List.mem_flatMap.mpr ⟨r, hr, List.mem_map.mpr ⟨g, hg, rfl⟩⟩
theorem sum_due {R : Rounds} (w : Wf R) : ∀ k : Nat, k ≤ R.length → sumR (namesQ R) (fun s => dueQ R s k) = (k : Rat)
  | 0, _ => sumR_zero _
  | k + 1, h => by
    have hr : R[k]? = some R[k] := List.getElem?_eq_getElem h
    have e : (fun s => dueQ R s (k + 1)) = fun s => dueQ R s k + partQ R[k] s := funext fun s => due_succ hr
    rw [e, sumR_add, sum_due w k (by omega), sum_part (names_nodup R) (w.rows _ (List.getElem_mem h)) fun g hg => mem_names (List.getElem_mem h) hg]
    grind
theorem sum_stand {R : Rounds} (w : Wf R) {ps : List Str} (h : Pays R ps) : sumR (namesQ R) (standQ R ps) = 0 := by
  have e : standQ R ps = fun s => dueQ R s ps.length - (((ps.count s : Nat) : Int) : Rat) := rfl
  rw [e, sumR_sub, sum_due w _ h.1, sumR_int, sum_count (names_nodup R) ps fun s hs => ?_]
  · show ((ps.length : Int) : Rat) - ((ps.length : Int) : Rat) = 0
    grind
  · obtain ⟨r, hr, g, hg, e⟩ := h.mem hs
    rw [← e]
    exact mem_names hr hg
/-! ### tighter sizes, of drawn rounds -/
theorem RowOf.wt45 {G : List Str} {ac : Bool} {r : Row} (h : RowOf G ac r) : wtQ r ≤ 45 := by
  have key : ∀ l : Row, (∀ g ∈ l, 1 ≤ g.2.1 ∧ g.2.1 ≤ 9) → wtQ l ≤ 9 * (l.length : Int) := fun l => by
    induction l with
    | nil => intro _; exact Int.le_refl _
    | cons g l ih =>
      intro hl
      have a := ih fun x hx => hl x (List.mem_cons_of_mem _ hx)
      have b := (hl g (by simp)).2
      have e : wtQ (g :: l) = g.2.1 + wtQ l := by unfold wtQ; rw [List.map_cons, List.sum_cons]
      rw [e, List.length_cons]
      omega
  have := key r h.wt
  have := h.len
  omega
theorem RowOf.part64 {G : List Str} {ac : Bool} {r : Row} (hG : Gs G) (h : RowOf G ac r) (s : Str) : Bq 64 (partQ r s) := by
  obtain ⟨a, b⟩ := wt_pos (h.wf hG)
  obtain ⟨c, d⟩ := mine_le r s (h.wf hG).wt
  have := h.wt45
  exact .mk (by omega) (by omega) (by omega)
theorem fold_bqT {G : List Str} {ac : Bool} (hG : Gs G) (s : Str) : ∀ (R : Rounds) (q : Rat) (k : Nat), (∀ r ∈ R, RowOf G ac r) → Bq (2 ^ (7 * k)) q → Bq (2 ^ (7 * (k + R.length))) (R.foldl (fun q r => q + partQ r s) q)
  | [], q, k, _, h => h
  | r :: R, q, k, hw, h => by
    have h1 : Bq (2 ^ (7 * (k + 1))) (q + partQ r s) := by
      have z := h.add ((hw r (by simp)).part64 hG s)
      have e : 2 * (2 ^ (7 * k) * 64) = 2 ^ (7 * (k + 1)) := by
        rw [Nat.mul_add, Nat.pow_add]
        omega
      rw [e] at z
      exact z
    have := fold_bqT hG s R _ (k + 1) (fun r hr => hw r (List.mem_cons_of_mem _ hr)) h1
    rw [List.length_cons, show k + (R.length + 1) = k + 1 + R.length by omega]
    exact this
theorem RsOf.due {G : List Str} {ac : Bool} {R : Rounds} (hG : Gs G) (h : RsOf G ac 12 R) (s : Str) (k : Nat) : Bq (2 ^ 84) (dueQ R s k) := by
  have z := fold_bqT hG s (R.take k) 0 0 (fun r hr => h.rows r (List.mem_of_mem_take hr)) (.zero (Nat.le_refl _))
  refine z.mono (Nat.pow_le_pow_right (by decide) ?_)
  have hl := h.len
  have : (R.take k).length ≤ R.length := by rw [List.length_take]; omega
  omega
theorem RsOf.stand {G : List Str} {ac : Bool} {R : Rounds} (hG : Gs G) (h : RsOf G ac 12 R) {ps : List Str} (hp : ps.length ≤ R.length) (s : Str) : Bq (2 ^ 90) (standQ R ps s) := by
  have hc : ps.count s ≤ 20 := by
    have h1 : ps.count s ≤ ps.length := List.count_le_length
    have := h.len
    omega
  have hb : Bq 20 ((ps.count s : Nat) : Rat) := ⟨by show ((((ps.count s : Nat) : Int) : Rat)).num.natAbs ≤ 20; rw [Rat.num_intCast]; omega, by show ((((ps.count s : Nat) : Int) : Rat)).den ≤ 20; rw [Rat.den_intCast]; omega⟩
  refine ((h.due hG s ps.length).sub hb).mono ?_
  have : (2 : Nat) ^ 90 = 2 ^ 84 * 64 := by rw [← Nat.pow_add (m := 84) (n := 6)]
  rw [this]
  generalize (2 : Nat) ^ 84 = x
  omega
theorem sum_bq (f : Str → Rat) (hf : ∀ s, Bq (2 ^ 90) (f s)) : ∀ (ns : List Str) (q : Rat) (k : Nat), Bq (2 ^ (91 * k)) q → Bq (2 ^ (91 * (k + ns.length))) (ns.foldl (fun q s => q + f s) q)
  | [], q, k, h => h
  | n :: ns, q, k, h => by
    have h1 : Bq (2 ^ (91 * (k + 1))) (q + f n) := by
      have z := h.add (hf n)
      have e : 2 * (2 ^ (91 * k) * 2 ^ 90) = 2 ^ (91 * (k + 1)) := by
        rw [Nat.mul_add, Nat.pow_add]
        have : (2 : Nat) ^ (91 * 1) = 2 * 2 ^ 90 := by decide
        rw [this, Nat.mul_left_comm]
      rw [e] at z
      exact z
    have := sum_bq f hf ns _ (k + 1) h1
    rw [List.length_cons, show k + (ns.length + 1) = k + 1 + ns.length by omega]
    exact this
end RF

set_option Elab.async false
set_option linter.all false
set_option maxRecDepth 100000
set_option maxHeartbeats 4000000
set_option autoImplicit false
namespace RF
open PySem L2

/-! ### things that are changed and shared -/
inductive MO where
  | lst (xs : List D)
  | dk (kvs : List (Key × D))
  | dt (kvs : List (List Key × D))
  /-- a dict that begins with a tuple of the module's, by its keys -/
  | nt (P : Program) (w : World) (ks : List (List Key))
abbrev Mu : Type := Addr → Option MO
def Mu.put (μ : Mu) (a : Addr) (m : MO) : Mu := fun b => if b = a then some m else μ b
def Mu.del (μ : Mu) (a : Addr) : Mu := fun b => if b = a then none else μ b
def mu0 : Mu := fun _ => none
theorem Mu.put_same (μ : Mu) (a : Addr) (m : MO) : μ.put a m a = some m := if_pos rfl
theorem Mu.put_ne {μ : Mu} {a b : Addr} {m : MO} (h : b ≠ a) : μ.put a m b = μ b := if_neg h
def MoAt (K : PySem.W.Frag) (I H : Hp) (a : Addr) : MO → Prop
  | .lst xs => ∃ vs, H a = some (.lst vs) ∧ RpL K I xs vs
  | .dk kvs => ∃ es, H a = some (.dK es) ∧ RpK K I kvs es
  | .dt kvs => ∃ es, H a = some (.dT es) ∧ RpT K I kvs es
  | .nt P w ks => ∃ xs, H a = some (ntO P w a xs) ∧ xs.map (·.1) = ks ∧ ∀ z ∈ xs, SqT K I z.2 (z.1.map kV)
def MuOk (K : PySem.W.Frag) (w : Wd) (μ : Mu) : Prop := ∀ a m, μ a = some m → w.I a = none ∧ w.tp ≠ some a ∧ MoAt K w.I w.H a m
/-- seen from w, only what is lent has changed -/
structure Wd.lex (L : Addr → Prop) (w w' : Wd) : Prop where
  tp : w'.tp = w.tp
  lk : w'.lk = w.lk
  I : Same w.I w'.I
  H : ∀ a o, w.H a = some o → w.tp ≠ some a → ¬ L a → w'.H a = some o
  fr : ∀ a, w.I a = none → w.H a ≠ none → w'.I a = none
  dom : ∀ a, w'.H a = none → w.H a = none
def noL : Addr → Prop := fun _ => False
section
variable {K : PySem.W.Frag} {lk : Bool} {w0 w w' w1 : Wd} {μ μ' : Mu} {L L' : Addr → Prop}
theorem MoAt.there {I H : Hp} {a : Addr} {m : MO} (h : MoAt K I H a m) : H a ≠ none := by
  cases m <;> obtain ⟨vs, e, _⟩ := h <;> rw [e] <;> exact fun z => nomatch z
theorem MoAt.mono {I J H H' : Hp} {a : Addr} {m : MO} (h : MoAt K I H a m) (s : Same I J) (e : ∀ o, H a = some o → H' a = some o) : MoAt K J H' a m := by
  cases m with
  | lst xs => obtain ⟨vs, q, r⟩ := h; exact ⟨vs, e _ q, r.mono s⟩
  | dk xs => obtain ⟨vs, q, r⟩ := h; exact ⟨vs, e _ q, r.keeps (.of_same s)⟩
  | dt xs => obtain ⟨vs, q, r⟩ := h; exact ⟨vs, e _ q, r.keeps (.of_same s)⟩
  | nt P w ks => obtain ⟨vs, q, r, z⟩ := h; exact ⟨vs, e _ q, r, fun x hx => sqT_keeps (.of_same s) (z x hx)⟩
theorem MuOk.mono (h : MuOk K w μ) (l : w.le w') : MuOk K w' μ := fun a m e => by
  obtain ⟨h1, h2, h3⟩ := h a m e
  exact ⟨l.fr a h1 h3.there, by rw [l.tp]; exact h2, h3.mono l.I fun o q => l.H a o q h2⟩
theorem Wd.le.lex (l : w.le w') : w.lex L w' := ⟨l.tp, l.lk, l.I, fun a o e n _ => l.H a o e n, l.fr, l.dom⟩
theorem Wd.lex.le (l : w.lex noL w') : w.le w' := ⟨l.tp, l.lk, l.I, fun a o e n => l.H a o e n id, l.fr, l.dom⟩
theorem Wd.lex.trans (h : w0.lex L w) (k : w.lex L' w') (hl : ∀ a, L' a → L a ∨ w0.H a = none) : w0.lex L w' where
  tp := k.tp.trans h.tp
  lk := k.lk.trans h.lk
  I := h.I.trans k.I
  H := fun a o e n nl => k.H a o (h.H a o e n nl) (by rw [h.tp]; exact n) fun z => (hl a z).elim nl fun q => by rw [e] at q; cases q
  fr := fun a e n => k.fr a (h.fr a e n) fun z => n (h.dom a z)
  dom := fun a e => h.dom a (k.dom a e)
theorem Wd.lex.trans_le (h : w0.lex L w) (k : w.le w') : w0.lex L w' := h.trans (L' := noL) k.lex fun a z => z.elim
/-- the state: slots, and what is changeable -/
structure Sx (K : PySem.W.Frag) (lk : Bool) (L : Addr → Prop) (w0 w : Wd) (σ : St) (ρ : List Sl) (μ : Mu) : Prop where
  lk : w.lk = lk
  le : w0.lex L w
  ok : w.Ok
  len : σ.length = ρ.length
  sl : ∀ (i : Nat) (s : Sl), ρ[i]? = some s → isOwn s = false ∧ SlOk K w w s σ[i]?
  mu : MuOk K w μ
  own : ∀ a m, μ a = some m → L a ∨ w0.H a = none
variable {σ σ' : St} {ρ ρ' : List Sl}
theorem Sx.sr (h : Sx K lk L w0 w σ ρ μ) : Sr K lk w w σ ρ := ⟨h.lk, .refl w, h.ok, h.len, fun i s e => (h.sl i s e).2, fun i j s t a e1 e2 o1 => by
  rw [(h.sl i s e1).1] at o1
  cases o1⟩
theorem SlOk.base {s : Sl} {x : Option (Option V)} (ho : isOwn s = false) (h : SlOk K w0 w s x) : SlOk K w1 w s x := by
  cases s with
  | un => exact True.intro
  | dat d => exact h
  | tape => exact h
  | lst xs => cases ho
  | dk xs => cases ho
  | dt xs => cases ho
theorem Sx.of_sr (h : Sx K lk L w0 w σ ρ μ) (s : Sr K lk w w' σ' ρ') (ho : ∀ (i : Nat) (t : Sl), ρ'[i]? = some t → isOwn t = false) : Sx K lk L w0 w' σ' ρ' μ :=
  ⟨s.lk, h.le.trans_le s.le, s.ok, s.len, fun i t e => ⟨ho i t e, SlOk.base (ho i t e) (s.sl i t e)⟩, h.mu.mono s.le, h.own⟩
theorem Sx.mono (h : Sx K lk L w0 w σ ρ μ) (l : w.le w') (ok : w'.Ok) : Sx K lk L w0 w' σ ρ μ := h.of_sr (h.sr.mono l ok) fun i t e => (h.sl i t e).1
theorem own_set {ρ : List Sl} (h : ∀ (i : Nat) (t : Sl), ρ[i]? = some t → isOwn t = false) {j : Nat} {s : Sl} (hs : isOwn s = false) : ∀ (i : Nat) (t : Sl), (ρ.set j s)[i]? = some t → isOwn t = false := fun i t e => by
  by_cases z : j = i
  · subst z
    by_cases hl : j < ρ.length
    · rw [List.getElem?_set_self hl] at e; cases e; exact hs
    · rw [List.getElem?_eq_none (by rw [List.length_set]; omega)] at e; cases e
  · rw [List.getElem?_set_ne z] at e; exact h i t e
theorem Sx.set (h : Sx K lk L w0 w σ ρ μ) (i : Nat) {d : D} {v : V} (r : Rp K w.I d v) : Sx K lk L w0 w (σ.set i (some v)) (ρ.set i (.dat d)) μ :=
  h.of_sr (h.sr.set i r) (own_set (fun j t e => (h.sl j t e).1) rfl)
/-! ### judgements -/
def GetsX (K : PySem.W.Frag) (lk : Bool) (L : Addr → Prop) (w0 : Wd) (σ : St) (ρ : List Sl) (P : D → Mu → Prop) (Q : VK) : Prop := ∀ (v : V) (w' : Wd) (d : D) (μ' : Mu), Sx K lk L w0 w' σ ρ μ' → Rp K w'.I d v → P d μ' → Q v w'.H
def EX (K : PySem.W.Frag) (lk : Bool) (L : Addr → Prop) (te : TE) (ρ : List Sl) (μ : Mu) (P : D → Mu → Prop) : Prop := ∀ (w0 w : Wd) (σ : St), Sx K lk L w0 w σ ρ μ → ∀ Q : VK, GetsX K lk L w0 σ ρ P Q → te σ w.H Q
def TX (K : PySem.W.Frag) (lk : Bool) (L : Addr → Prop) (tt : TT) (ρ : List Sl) (μ : Mu) (P : Bool → Mu → Prop) : Prop := ∀ (w0 w : Wd) (σ : St), Sx K lk L w0 w σ ρ μ → ∀ Q : Bool → Hp → Prop, (∀ (b : Bool) (w' : Wd) (μ' : Mu), Sx K lk L w0 w' σ ρ μ' → P b μ' → Q b w'.H) → tt σ w.H Q
def AX (K : PySem.W.Frag) (lk : Bool) (L : Addr → Prop) (ta : TA) (ρ : List Sl) (μ : Mu) (P : List Ar → Mu → Prop) : Prop := ∀ (w0 w : Wd) (σ : St), Sx K lk L w0 w σ ρ μ → ∀ Q : List V → Hp → Prop, (∀ (vs : List V) (w' : Wd) (as : List Ar) (μ' : Mu), Sx K lk L w0 w' σ ρ μ' → ArsOk K w' as vs → P as μ' → Q vs w'.H) → ta σ w.H Q
structure PoX where
  nx : List Sl → Mu → Prop
  rt : D → Mu → Prop
  bk : List Sl → Mu → Prop := fun _ _ => False
  ct : List Sl → Mu → Prop := fun _ _ => False
structure FitsX (K : PySem.W.Frag) (lk : Bool) (L : Addr → Prop) (w0 : Wd) (E : Ends) (p : PoX) : Prop where
  nx : ∀ (σ : St) (w : Wd) (ρ : List Sl) (μ : Mu), Sx K lk L w0 w σ ρ μ → p.nx ρ μ → E.nx σ w.H
  rt : ∀ (v : V) (w : Wd) (d : D) (μ : Mu), w0.lex L w → w.Ok → w.lk = lk → MuOk K w μ → (∀ a m, μ a = some m → L a ∨ w0.H a = none) → Rp K w.I d v → p.rt d μ → E.rt v w.H
  bk : ∀ (σ : St) (w : Wd) (ρ : List Sl) (μ : Mu), Sx K lk L w0 w σ ρ μ → p.bk ρ μ → E.bk σ w.H
  ct : ∀ (σ : St) (w : Wd) (ρ : List Sl) (μ : Mu), Sx K lk L w0 w σ ρ μ → p.ct ρ μ → E.ct σ w.H
def StX (K : PySem.W.Frag) (lk : Bool) (L : Addr → Prop) (t : TS) (ρ : List Sl) (μ : Mu) (p : PoX) : Prop := ∀ (w0 w : Wd) (σ : St) (E : Ends), Sx K lk L w0 w σ ρ μ → FitsX K lk L w0 E p → t E σ w.H
variable {te ta tb : TE} {tt tu : TT} {t u : TS} {p : PoX} {P : D → Prop} {X : D → Mu → Prop} {d : D}
/-! lifts of what changes nothing -/
theorem ex (h : EvS K lk te ρ P) : EX K lk L te ρ μ (fun d μ' => P d ∧ μ' = μ) := fun w0 w σ s Q g => h w w σ s.sr Q fun v w' d l ok r q => g v w' d μ (s.mono l ok) r ⟨q, rfl⟩
theorem exD (h : EvD K lk te ρ d) : EX K lk L te ρ μ (fun x μ' => x = d ∧ μ' = μ) := ex h
theorem tx {T : Bool → Prop} (h : EvT K lk tt ρ T) : TX K lk L tt ρ μ (fun b μ' => T b ∧ μ' = μ) := fun w0 w σ s Q g => h w w σ s.sr Q fun b w' l ok q => g b w' μ (s.mono l ok) ⟨q, rfl⟩
theorem ax {ta : TA} {C : List Ar → Prop} (h : EvA K lk ta ρ C) : AX K lk L ta ρ μ (fun as μ' => C as ∧ μ' = μ) := fun w0 w σ s Q g => h w w σ s.sr Q fun vs w' as l ok r q => g vs w' as μ (s.mono l ok) r ⟨q, rfl⟩
theorem EX.imp {Y : D → Mu → Prop} (h : EX K lk L te ρ μ X) (i : ∀ d μ', X d μ' → Y d μ') : EX K lk L te ρ μ Y := fun w0 w σ s Q g => h w0 w σ s Q fun v w' d μ' s' r q => g v w' d μ' s' r (i d μ' q)
theorem TX.imp {T U : Bool → Mu → Prop} (h : TX K lk L tt ρ μ T) (i : ∀ d μ', T d μ' → U d μ') : TX K lk L tt ρ μ U := fun w0 w σ s Q g => h w0 w σ s Q fun b w' μ' s' q => g b w' μ' s' (i b μ' q)
theorem tx_and {T U : Bool → Mu → Prop} (h1 : TX K lk L tt ρ μ T) (hf : ∀ μ', T false μ' → U false μ') (h2 : ∀ μ', T true μ' → TX K lk L tu ρ μ' U) : TX K lk L (tAnd tt tu) ρ μ U := fun w0 w σ s Q g => h1 w0 w σ s _ fun b w1 μ1 s1 a => by
  cases b with
  | true => exact h2 μ1 a w0 w1 σ s1 Q g
  | false => exact g false w1 μ1 s1 (hf μ1 a)
theorem tx_or {T U : Bool → Mu → Prop} (h1 : TX K lk L tt ρ μ T) (hf : ∀ μ', T true μ' → U true μ') (h2 : ∀ μ', T false μ' → TX K lk L tu ρ μ' U) : TX K lk L (tOr tt tu) ρ μ U := fun w0 w σ s Q g => h1 w0 w σ s _ fun b w1 μ1 s1 a => by
  cases b with
  | false => exact h2 μ1 a w0 w1 σ s1 Q g
  | true => exact g true w1 μ1 s1 (hf μ1 a)
theorem tx_B {T : Bool → Mu → Prop} (h : EX K lk L te ρ μ (fun d μ' => ∃ b, d = .bl b ∧ T b μ')) : TX K lk L (tB te) ρ μ T := fun w0 w σ s Q g => h w0 w σ s _ fun v w1 d μ1 s1 r ⟨b, e, tb⟩ => by
  subst e
  exact ⟨b, r, g b w1 μ1 s1 tb⟩
/-! statements -/
theorem FitsX.seq {M : List Sl → Mu → Prop} {E : Ends} (f : FitsX K lk L w0 E p) (k : ∀ ρ' μ', M ρ' μ' → StX K lk L u ρ' μ' p) : FitsX K lk L w0 { E with nx := u E } { p with nx := M } :=
  ⟨fun σ' w' ρ' μ' s' m => k ρ' μ' m w0 w' σ' E s' f, f.rt, f.bk, f.ct⟩
theorem sx_seq (M : List Sl → Mu → Prop) (h : StX K lk L t ρ μ { p with nx := M }) (k : ∀ ρ' μ', M ρ' μ' → StX K lk L u ρ' μ' p) : StX K lk L (tSeq t u) ρ μ p := fun w0 w σ E s f => h w0 w σ _ s (f.seq k)
theorem sx_next (h : p.nx ρ μ) : StX K lk L tNext ρ μ p := fun w0 w σ E s f => f.nx σ w ρ μ s h
theorem sx_break (h : p.bk ρ μ) : StX K lk L tBreak ρ μ p := fun w0 w σ E s f => f.bk σ w ρ μ s h
theorem sx_nextq (h : StX K lk L u ρ μ p) : StX K lk L (tSeq tNext u) ρ μ p := h
theorem sx_assoc {a b c : TS} (h : StX K lk L (tSeq a (tSeq b c)) ρ μ p) : StX K lk L (tSeq (tSeq a b) c) ρ μ p := h
theorem sx_ret (h : EX K lk L te ρ μ X) (k : ∀ d μ', X d μ' → p.rt d μ') : StX K lk L (tRet te) ρ μ p := fun w0 w σ E s f => h w0 w σ s _ fun v w' d μ' s' r q => f.rt v w' d μ' s'.le s'.ok s'.lk s'.mu s'.own r (k d μ' q)
theorem sx_retq (h : EX K lk L te ρ μ X) (k : ∀ d μ', X d μ' → p.rt d μ') : StX K lk L (tSeq (tRet te) u) ρ μ p := fun w0 w σ E s f => h w0 w σ s _ fun v w' d μ' s' r q => f.rt v w' d μ' s'.le s'.ok s'.lk s'.mu s'.own r (k d μ' q)
theorem sx_asg {i : Nat} (h : EX K lk L te ρ μ X) (k : ∀ d μ', X d μ' → p.nx (ρ.set i (.dat d)) μ') : StX K lk L (tAsg te (gName i)) ρ μ p := fun w0 w σ E s f => h w0 w σ s _ fun v w' d μ' s' r q => f.nx _ w' _ μ' (s'.set i r) (k d μ' q)
theorem sx_let {i : Nat} (h : EX K lk L te ρ μ X) (k : ∀ d μ', X d μ' → StX K lk L u (ρ.set i (.dat d)) μ' p) : StX K lk L (tSeq (tAsg te (gName i)) u) ρ μ p := fun w0 w σ E s f => h w0 w σ s _ fun v w' d μ' s' r q => k d μ' q w0 w' _ E (s'.set i r) f
theorem sx_letD {i : Nat} (h : EvD K lk te ρ d) (k : StX K lk L u (ρ.set i (.dat d)) μ p) : StX K lk L (tSeq (tAsg te (gName i)) u) ρ μ p := sx_let (ex h) fun x μ' ⟨e, m⟩ => by rw [e, m]; exact k
theorem sx_drop (h : EX K lk L te ρ μ X) (k : ∀ d μ', X d μ' → p.nx ρ μ') : StX K lk L (tDrop te) ρ μ p := fun w0 w σ E s f => h w0 w σ s _ fun v w' d μ' s' r q => f.nx σ w' ρ μ' s' (k d μ' q)
theorem sx_if {T : Bool → Mu → Prop} (h : TX K lk L tt ρ μ T) (h1 : ∀ μ', T true μ' → StX K lk L t ρ μ' p) (h2 : ∀ μ', T false μ' → StX K lk L u ρ μ' p) : StX K lk L (tIfS tt t u) ρ μ p := fun w0 w σ E s f => h w0 w σ s _ fun b w' μ' s' e => by
  cases b with
  | true => exact h1 μ' e w0 w' σ E s' f
  | false => exact h2 μ' e w0 w' σ E s' f
theorem sx_ifq {T : Bool → Mu → Prop} {v : TS} (h : TX K lk L tt ρ μ T) (h1 : ∀ μ', T true μ' → StX K lk L (tSeq t v) ρ μ' p) (h2 : ∀ μ', T false μ' → StX K lk L (tSeq u v) ρ μ' p) : StX K lk L (tSeq (tIfS tt t u) v) ρ μ p := fun w0 w σ E s f => h w0 w σ s _ fun b w' μ' s' e => by
  cases b with
  | true => exact h1 μ' e w0 w' σ E s' f
  | false => exact h2 μ' e w0 w' σ E s' f
end
end RF

set_option Elab.async false
set_option linter.all false
set_option maxRecDepth 100000
set_option maxHeartbeats 4000000
set_option autoImplicit false
namespace RF
open PySem L2
section
variable {K : PySem.W.Frag} {lk : Bool} {w0 w w' w1 : Wd} {μ μ' : Mu} {L L' : Addr → Prop} {σ σ' : St} {ρ ρ' : List Sl} {te ta tb : TE} {tt tu : TT} {t u : TS} {p : PoX} {P : D → Prop} {X : D → Mu → Prop} {d : D} {g : TG} {wi : TI}
theorem lex_up (l : w0.lex L w) (ok : w.Ok) : (w0.up w).lex L w where
  tp := l.tp
  lk := l.lk
  I := fun _ _ e => e
  H := fun a o e n nl => by
    cases z : w.I a with
    | some u => rw [Wd.up_some z] at e; cases e; exact ok.sub _ _ z
    | none => rw [Wd.up_none z] at e; exact l.H a o e n nl
  fr := fun a e _ => e
  dom := fun a e => by
    rw [Wd.up_none (ok.sub.free e)]
    exact l.dom a e
theorem up_lex (l : w0.lex L w) (ok : w.Ok) : w0.lex L (w0.up w) where
  tp := rfl
  lk := rfl
  I := l.I
  H := fun a o e n nl => by
    cases z : w.I a with
    | some u =>
      rw [Wd.up_some z]
      have q := ok.sub _ _ z
      rw [l.H a o e n nl] at q
      exact q.symm
    | none => rw [Wd.up_none z]; exact e
  fr := l.fr
  dom := fun a e => by
    cases z : w.I a with
    | some u => rw [Wd.up_some z] at e; cases e
    | none => rw [Wd.up_none z] at e; exact e
theorem Sx.rebase (h : Sx K lk L w0 w σ ρ μ) : Sx K lk L (w0.up w) w σ ρ μ := ⟨h.lk, lex_up h.le h.ok, h.ok, h.len, h.sl, h.mu, fun a m e => (h.own a m e).imp id fun z => by rw [Wd.up_none (h.mu a m e).1]; exact z⟩
theorem Sx.back (l : w0.lex L w1) (h : Sx K lk L w1 w σ ρ μ) : Sx K lk L w0 w σ ρ μ := ⟨h.lk, l.trans h.le fun a z => .inl z, h.ok, h.len, h.sl, h.mu, fun a m e => (h.own a m e).imp id fun z => l.dom a z⟩
theorem FitsX.up {E : Ends} (l : w0.lex L w1) (f : FitsX K lk L w0 E p) : FitsX K lk L w1 E p :=
  ⟨fun σ w ρ μ s h => f.nx σ w ρ μ (s.back l) h, fun v w d μ h ok k m o r q => f.rt v w d μ (l.trans h fun a z => .inl z) ok k m (fun a x e => (o a x e).imp id fun z => l.dom a z) r q, fun σ w ρ μ s h => f.bk σ w ρ μ (s.back l) h, fun σ w ρ μ s h => f.ct σ w ρ μ (s.back l) h⟩
/-! targets -/
def TgX (K : PySem.W.Frag) (lk : Bool) (L : Addr → Prop) (g : TG) (x : D) (ρ ρ' : List Sl) : Prop := ∀ (w0 w : Wd) (σ : St) (v : V) (μ : Mu), Sx K lk L w0 w σ ρ μ → Rp K w.I x v → ∀ Q : St → Hp → Prop, (∀ σ', Sx K lk L w0 w σ' ρ' μ → Q σ' w.H) → g v σ w.H Q
theorem tgx {js : List Nat} {x : D} (h : TgS K lk g js x ρ ρ') (ho : (∀ (i : Nat) (t : Sl), ρ[i]? = some t → isOwn t = false) → ∀ (i : Nat) (t : Sl), ρ'[i]? = some t → isOwn t = false) : TgX K lk L g x ρ ρ' := fun w0 w σ v μ s r Q k =>
  h w w σ v s.sr r Q fun σ' f _ => k σ' (s.of_sr (f w s.sr (Same.refl _)) (ho fun i t e => (s.sl i t e).1))
theorem tgx_name {i : Nat} {x : D} : TgX K lk L (gName i) x ρ (ρ.set i (.dat x)) := tgx tg_name fun h => own_set h rfl
theorem tgx_tup2 {i j : Nat} {a b : D} : TgX K lk L (gTup K 2 (gCons (gName i) (gCons (gName j) gNil))) (.tup [a, b]) ρ ((ρ.set i (.dat a)).set j (.dat b)) := tgx tg_tup2 fun h => own_set (own_set h rfl) rfl
theorem tgx_tup3 {i j l : Nat} {a b c : D} : TgX K lk L (gTup K 3 (gCons (gName i) (gCons (gName j) (gCons (gName l) gNil)))) (.tup [a, b, c]) ρ (((ρ.set i (.dat a)).set j (.dat b)).set l (.dat c)) := tgx tg_tup3 fun h => own_set (own_set (own_set h rfl) rfl) rfl
/-! for, while -/
/-- what is walked, with what may change by asking for it -/
def IX (K : PySem.W.Frag) (lk : Bool) (L : Addr → Prop) (wi : TI) (ρ : List Sl) (μ : Mu) (P : List D → Mu → Prop) : Prop := ∀ (w0 w : Wd) (σ : St), Sx K lk L w0 w σ ρ μ → ∀ R : It → Hp → Prop, (∀ (J : It) (w' : Wd) (xs : List D) (μ' : Mu), Sx K lk L w0 w' σ ρ μ' → P xs μ' → Yields K w' J xs → R J w'.H) → wi σ w.H R
theorem ix {T : List D → Prop} (h : ItS K lk wi ρ T) : IX K lk L wi ρ μ (fun xs μ' => T xs ∧ μ' = μ) := fun w0 w σ s R k => h w w σ s.sr R fun J w' xs l ok q Y => k J w' xs μ (s.mono l ok) ⟨q, rfl⟩ Y
theorem sx_for {T : List D → Mu → Prop} (hi : IX K lk L wi ρ μ T) (Iv : List D → Nat → List Sl → Mu → Prop) (h0 : ∀ xs μ', T xs μ' → Iv xs 0 ρ μ')
    (hs : ∀ (xs : List D) (i : Nat) (x : D) (ρ1 : List Sl) (μ1 : Mu), xs[i]? = some x → Iv xs i ρ1 μ1 → ∃ ρ2, TgX K lk L g x ρ1 ρ2 ∧ StX K lk L t ρ2 μ1 { nx := Iv xs (i + 1), ct := Iv xs (i + 1), bk := p.nx, rt := p.rt })
    (hd : ∀ xs ρ' μ', Iv xs xs.length ρ' μ' → p.nx ρ' μ') : StX K lk L (tFor wi g t) ρ μ p := fun w0 w σ E s f =>
  hi w0 w σ s _ fun J w1 xs μ1 s0 hX Y => by
    have s1 := s0.rebase
    have f1 := f.up (up_lex s0.le s0.ok)
    refine ⟨fun i m σ' H' => m = xs.length - i ∧ i ≤ xs.length ∧ ∃ w' ρ' μ', w'.H = H' ∧ Sx K lk L (w0.up w1) w' σ' ρ' μ' ∧ Iv xs i ρ' μ', ⟨xs.length, by simp, Nat.zero_le _, w1, ρ, μ1, rfl, s1, h0 xs μ1 hX⟩, ?_⟩
    rintro i m σ' H' ⟨rfl, hle, w', ρ', μ', rfl, s', iv⟩
    have sm : Same w1.I w'.I := s'.le.I
    by_cases hlt : i < xs.length
    · refine .inr ⟨Y.go i w' s'.ok sm hlt, fun σ2 H2 => ∃ w2 ρ2 μ2, w2.H = H2 ∧ Sx K lk L (w0.up w1) w2 σ2 ρ2 μ2 ∧ Iv xs (i + 1) ρ2 μ2, fun σ2 H2 ⟨w2, ρ2, μ2, e2, s2, iv2⟩ => ⟨xs.length - (i + 1), by omega, rfl, hlt, w2, ρ2, μ2, e2, s2, iv2⟩, fun v H2 y => ?_⟩
      have hx : xs[i]? = some xs[i] := List.getElem?_eq_getElem hlt
      obtain ⟨w2, rfl, l2, ok2, r2⟩ := Y.yld i w' v H2 s'.ok sm y _ hx
      obtain ⟨ρ2, tg, st⟩ := hs xs i _ ρ' μ' hx iv
      refine tg _ w2 σ' v μ' (s'.mono l2 ok2) r2 _ fun σ3 s3 => ?_
      exact st _ w2 σ3 _ s3 ⟨fun σ4 w4 ρ4 μ4 s4 q => ⟨w4, ρ4, μ4, rfl, s4, q⟩, f1.rt, f1.nx, fun σ4 w4 ρ4 μ4 s4 q => ⟨w4, ρ4, μ4, rfl, s4, q⟩⟩
    · have e : i = xs.length := by omega
      subst e
      exact .inl ⟨Y.stop w' s'.ok sm, f1.nx σ' w' ρ' μ' s' (hd xs ρ' μ' iv)⟩
theorem sx_forq {T : List D → Mu → Prop} (hi : IX K lk L wi ρ μ T) (Iv : List D → Nat → List Sl → Mu → Prop) (h0 : ∀ xs μ', T xs μ' → Iv xs 0 ρ μ')
    (hs : ∀ (xs : List D) (i : Nat) (x : D) (ρ1 : List Sl) (μ1 : Mu), xs[i]? = some x → Iv xs i ρ1 μ1 → ∃ ρ2, TgX K lk L g x ρ1 ρ2 ∧ StX K lk L t ρ2 μ1 { nx := Iv xs (i + 1), ct := Iv xs (i + 1), bk := fun ρ' μ' => ∃ xs, Iv xs xs.length ρ' μ', rt := p.rt })
    (hd : ∀ xs ρ' μ', Iv xs xs.length ρ' μ' → StX K lk L u ρ' μ' p) : StX K lk L (tSeq (tFor wi g t) u) ρ μ p :=
  sx_seq (fun ρ' μ' => ∃ xs, Iv xs xs.length ρ' μ') (sx_for hi Iv h0 hs fun xs ρ' μ' h => ⟨xs, h⟩) fun ρ' μ' ⟨xs, h⟩ => hd xs ρ' μ' h
theorem sx_while (W : Nat → List Sl → Mu → Prop) (m0 : Nat) (h0 : W m0 ρ μ)
    (hs : ∀ m ρ' μ', W m ρ' μ' → ∃ T : Bool → Mu → Prop, TX K lk L tt ρ' μ' T ∧ (∀ μ2, T true μ2 → StX K lk L t ρ' μ2 { nx := fun ρ2 μ3 => ∃ m', m' < m ∧ W m' ρ2 μ3, ct := fun ρ2 μ3 => ∃ m', m' < m ∧ W m' ρ2 μ3, bk := p.nx, rt := p.rt }) ∧ (∀ μ2, T false μ2 → p.nx ρ' μ2)) : StX K lk L (tWhile tt t) ρ μ p := fun w0 w σ E s f => by
  refine ⟨fun m σ' H' => ∃ w' ρ' μ', w'.H = H' ∧ Sx K lk L w0 w' σ' ρ' μ' ∧ W m ρ' μ', ⟨m0, w, ρ, μ, rfl, s, h0⟩, ?_⟩
  rintro m σ' H' ⟨w', ρ', μ', rfl, s', hw⟩
  obtain ⟨T, hb, h1, h2⟩ := hs m ρ' μ' hw
  refine hb w0 w' σ' s' _ fun c w2 μ2 s2 e => ?_
  cases c with
  | true => exact ⟨fun σ2 H2 => ∃ m', m' < m ∧ ∃ w3 ρ3 μ3, w3.H = H2 ∧ Sx K lk L w0 w3 σ2 ρ3 μ3 ∧ W m' ρ3 μ3, fun σ2 H2 h => h, h1 μ2 e w0 w2 σ' _ s2 ⟨fun σ4 w4 ρ4 μ4 s4 ⟨m', hm, q⟩ => ⟨m', hm, w4, ρ4, μ4, rfl, s4, q⟩, f.rt, f.nx, fun σ4 w4 ρ4 μ4 s4 ⟨m', hm, q⟩ => ⟨m', hm, w4, ρ4, μ4, rfl, s4, q⟩⟩⟩
  | false => exact f.nx σ' w2 ρ' μ2 s2 (h2 μ2 e)
/-! ### changes -/
theorem Sx.put (h : Sx K lk L w0 w σ ρ μ) {a : Addr} {m m' : MO} {o : HO} (hm : μ a = some m) (hp : plainP o) (hn : MoAt K w.I (upd w.H a o) a m') : Sx K lk L w0 (w.put a o) σ ρ (μ.put a m') := by
  obtain ⟨hI, ht, hM⟩ := h.mu a m hm
  have ok := Wd.put_ok h.ok hI ht hp
  refine ⟨h.lk, ⟨h.le.tp, h.le.lk, h.le.I, fun b u e n nl => ?_, h.le.fr, fun b e => ?_⟩, ok, h.len, fun i s e => ?_, fun b mb e => ?_, fun b mb e => ?_⟩
  · show upd w.H a o b = some u
    have nb : b ≠ a := fun z => by
      subst z
      rcases h.own b m hm with q | q
      · exact nl q
      · rw [e] at q; cases q
    rw [upd_ne nb]
    exact h.le.H b u e n nl
  · have e : upd w.H a o b = none := e
    by_cases z : b = a
    · subst z; rw [upd_same] at e; cases e
    · rw [upd_ne z] at e; exact h.le.dom b e
  · obtain ⟨ho, q⟩ := h.sl i s e
    refine ⟨ho, ?_⟩
    cases s with
    | un => exact True.intro
    | dat d => exact q
    | tape => exact q
    | lst xs => cases ho
    | dk xs => cases ho
    | dt xs => cases ho
  · by_cases z : b = a
    · subst z
      rw [Mu.put_same] at e
      cases e
      exact ⟨hI, ht, hn⟩
    · rw [Mu.put_ne z] at e
      obtain ⟨h1, h2, h3⟩ := h.mu b mb e
      exact ⟨h1, h2, h3.mono (Same.refl _) fun u q => by show upd w.H a o b = some u; rw [upd_ne z]; exact q⟩
  · by_cases z : b = a
    · subst z; exact h.own b m hm
    · rw [Mu.put_ne z] at e; exact h.own b mb e
/-- a new thing that may be changed -/
theorem Sx.fresh (h : Sx K lk L w0 w σ ρ μ) {a : Addr} {m : MO} {o : HO} (ha : w.H a = none) (hp : plainP o) (hn : MoAt K w.I (upd w.H a o) a m) : Sx K lk L w0 (w.put a o) σ ρ (μ.put a m) := by
  have hI := notI h.ok ha
  have ht := not_tape h.ok ha
  have ok := Wd.put_ok h.ok hI ht hp
  have h0 : w0.H a = none := h.le.dom a ha
  refine ⟨h.lk, ⟨h.le.tp, h.le.lk, h.le.I, fun b u e n nl => ?_, h.le.fr, fun b e => ?_⟩, ok, h.len, fun i s e => ?_, fun b mb e => ?_, fun b mb e => ?_⟩
  · show upd w.H a o b = some u
    rw [upd_ne (ne_of_none e h0)]
    exact h.le.H b u e n nl
  · have e : upd w.H a o b = none := e
    by_cases z : b = a
    · subst z; rw [upd_same] at e; cases e
    · rw [upd_ne z] at e; exact h.le.dom b e
  · obtain ⟨ho, q⟩ := h.sl i s e
    refine ⟨ho, ?_⟩
    cases s with
    | un => exact True.intro
    | dat d => exact q
    | tape => exact q
    | lst xs => cases ho
    | dk xs => cases ho
    | dt xs => cases ho
  · by_cases z : b = a
    · subst z
      rw [Mu.put_same] at e
      cases e
      exact ⟨hI, ht, hn⟩
    · rw [Mu.put_ne z] at e
      obtain ⟨h1, h2, h3⟩ := h.mu b mb e
      exact ⟨h1, h2, h3.mono (Same.refl _) fun u q => by show upd w.H a o b = some u; rw [upd_ne z]; exact q⟩
  · by_cases z : b = a
    · subst z; exact .inr h0
    · rw [Mu.put_ne z] at e; exact h.own b mb e
/-- a thing of mu is where nothing else of mu is and no new thing -/
theorem Sx.notfree (h : Sx K lk L w0 w σ ρ μ) {a : Addr} (ha : w.H a = none) : μ a = none := by
  cases e : μ a with
  | none => rfl
  | some m => exact absurd ha (h.mu a m e).2.2.there
/-- x = {}, x = [] -/
theorem sx_newK {i : Nat} (k : ∀ a, μ a = none → StX K lk L u (ρ.set i (.dat (.mref a))) (μ.put a (.dk [])) p) : StX K lk L (tSeq (tAsg (eOr tDNewK tDNewT) (gName i)) u) ρ μ p := fun w0 w σ E s f => .inl fun a ha =>
  k a (s.notfree ha) w0 (w.put a (.dK [])) _ E ((s.fresh ha (o := .dK []) True.intro (m := .dk []) ⟨[], upd_same, rfl⟩).set i rfl) f
theorem sx_newT {i : Nat} (k : ∀ a, μ a = none → StX K lk L u (ρ.set i (.dat (.mref a))) (μ.put a (.dt [])) p) : StX K lk L (tSeq (tAsg (eOr tDNewK tDNewT) (gName i)) u) ρ μ p := fun w0 w σ E s f => .inr fun a ha =>
  k a (s.notfree ha) w0 (w.put a (.dT [])) _ E ((s.fresh ha (o := .dT []) True.intro (m := .dt []) ⟨[], upd_same, rfl⟩).set i rfl) f
theorem sx_newL {i : Nat} (k : ∀ a, μ a = none → StX K lk L u (ρ.set i (.dat (.mref a))) (μ.put a (.lst [])) p) : StX K lk L (tSeq (tAsg (tLst tNil) (gName i)) u) ρ μ p := fun w0 w σ E s f => ⟨by show 0 ≤ sizeLine; decide, fun a ha =>
  k a (s.notfree ha) w0 (w.put a (.lst [])) _ E ((s.fresh ha (o := .lst []) True.intro (m := .lst []) ⟨[], upd_same, rfl⟩).set i rfl) f⟩
/-- o[k] = e, o a dict that may be changed -/
theorem sx_putK {to : TE} {a : Addr} {k : Key} (h : EX K lk L te ρ μ X) (ho : EvD K lk to ρ (.mref a)) (hk : EvD K lk tb ρ (kD k)) (hm : ∀ d μ1, X d μ1 → ∃ kvs, μ1 a = some (.dk kvs) ∧ kvs.length < 100000 ∧ p.nx ρ (μ1.put a (.dk (putD kvs k d)))) : StX K lk L (sPutU to tb te) ρ μ p := fun w0 w σ E s f => .inr
  (h w0 w σ s _ fun v w1 d μ1 s1 r1 c => ho w1 w1 σ s1.sr _ fun v2 w2 d2 l2 ok2 r2 e2 => hk w2 w2 σ (s1.mono l2 ok2).sr _ fun y w3 x3 l3 ok3 r3 e3 => by
    subst e2 e3
    have s3 := (s1.mono l2 ok2).mono l3 ok3
    obtain ⟨kvs, em, hl, q⟩ := hm d μ1 c
    obtain ⟨hI, ht, es, hH, r⟩ := s3.mu a _ em
    rw [show v2 = .ref a from r2, kD_inj (J := w3.I) r3]
    refine ⟨a, upd w3.H a (.dK (putK es k v)), rfl, .inl ⟨es, k, hH, rfl, by rw [r.length]; exact Nat.lt_trans hl (by decide), rfl⟩, ?_⟩
    exact f.nx σ (w3.put a (.dK (putK es k v))) ρ _ (s3.put em True.intro (m' := .dk (putD kvs k d)) ⟨_, upd_same, r.put ((r1.mono l2.I).mono l3.I)⟩) q)
theorem sx_putT {to : TE} {a : Addr} {k : List Key} (h : EX K lk L te ρ μ X) (ho : EvD K lk to ρ (.mref a)) (hk : EvD K lk tb ρ (.tk k)) (hm : ∀ d μ1, X d μ1 → ∃ kvs, μ1 a = some (.dt kvs) ∧ kvs.length < 100000 ∧ p.nx ρ (μ1.put a (.dt (putD kvs k d)))) : StX K lk L (sPutU to tb te) ρ μ p := fun w0 w σ E s f => .inr
  (h w0 w σ s _ fun v w1 d μ1 s1 r1 c => ho w1 w1 σ s1.sr _ fun v2 w2 d2 l2 ok2 r2 e2 => hk w2 w2 σ (s1.mono l2 ok2).sr _ fun y w3 x3 l3 ok3 r3 e3 => by
    subst e2 e3
    have s3 := (s1.mono l2 ok2).mono l3 ok3
    obtain ⟨kvs, em, hl, q⟩ := hm d μ1 c
    obtain ⟨hI, ht, es, hH, r⟩ := s3.mu a _ em
    obtain ⟨b, rfl, hb⟩ := r3
    rw [show v2 = .ref a from r2]
    refine ⟨a, upd w3.H a (.dT (putK es k v)), rfl, .inr ⟨es, k, b, hH, rfl, ok3.sub _ _ hb, by rw [r.length]; exact Nat.lt_trans hl (by decide), rfl⟩, ?_⟩
    exact f.nx σ (w3.put a (.dT (putK es k v))) ρ _ (s3.put em True.intro (m' := .dt (putD kvs k d)) ⟨_, upd_same, r.put ((r1.mono l2.I).mono l3.I)⟩) q)
end
end RF

set_option Elab.async false
set_option linter.all false
set_option maxRecDepth 100000
set_option maxHeartbeats 4000000
set_option autoImplicit false
namespace RF
open PySem L2
section
variable {K : PySem.W.Frag} {lk : Bool} {w0 w w' w1 : Wd} {μ μ' : Mu} {L L' : Addr → Prop} {σ σ' : St} {ρ ρ' : List Sl} {te ta tb : TE} {tt tu : TT} {t u : TS} {p : PoX} {P : D → Prop} {X : D → Mu → Prop} {d : D} {g : TG} {wi : TI}
/-- o.append(e) -/
theorem sx_app {to : TE} {a : Addr} {xs0 : List D} (ho : EvD K lk to ρ (.mref a)) (h0 : μ a = some (.lst xs0)) (h : EX K lk L te ρ μ X) (hm : ∀ d μ1, X d μ1 → ∃ xs, μ1 a = some (.lst xs) ∧ xs.length < 100000 ∧ p.nx ρ (μ1.put a (.lst (xs ++ [d])))) : StX K lk L (tDrop (tBM K "list" rAppend to (tCons te tNil))) ρ μ p := fun w0 w σ E s f =>
  ho w w σ s.sr _ fun v2 w2 d2 l2 ok2 r2 e2 => by
    subst e2
    have s2 := s.mono l2 ok2
    obtain ⟨_, _, vs0, hH0, _⟩ := s2.mu a _ h0
    rw [show v2 = .ref a from r2]
    refine ⟨Or.inl ⟨rfl, vs0, .inl (.inl hH0)⟩, h w0 w2 σ s2 _ fun v w1 d μ1 s1 r1 c => ?_⟩
    obtain ⟨xs, em, hl, q⟩ := hm d μ1 c
    obtain ⟨hI, ht, vs, hH, r⟩ := s1.mu a _ em
    refine ⟨a, vs, v, rfl, rfl, hH, by rw [r.length]; exact Nat.lt_trans hl (by decide), ?_⟩
    exact f.nx σ (w1.put a (.lst (vs ++ [v]))) ρ _ (s1.put em (o := .lst (vs ++ [v])) True.intro (m' := .lst (xs ++ [d])) ⟨_, upd_same, r.snoc r1⟩) q
/-! ### what is given up: nobody will change it -/
def MO.dat : MO → D
  | .lst xs => .lst xs
  | .dk kvs => .dk kvs
  | .dt kvs => .dt kvs
  | .nt _ _ _ => .non
def MO.isNt : MO → Bool
  | .nt _ _ _ => true
  | _ => false
theorem Sx.freeze (h : Sx K lk L w0 w σ ρ μ) {a : Addr} {m : MO} (hm : μ a = some m) (hl : ¬ L a) (hx : m.isNt = false := by rfl) : ∃ o, w.H a = some o ∧ Rp K (upd w.I a o) m.dat (.ref a) ∧ Sx K lk L w0 (w.fix a o) σ ρ (μ.del a) := by
  obtain ⟨hI, ht, hM⟩ := h.mu a m hm
  have h0 : w0.H a = none := (h.own a m hm).resolve_left hl
  obtain ⟨o, eo, rp⟩ : ∃ o, w.H a = some o ∧ Rp K (upd w.I a o) m.dat (.ref a) := by
    cases m with
    | lst xs => obtain ⟨vs, q, r⟩ := hM; exact ⟨_, q, a, vs, rfl, .inl (.inl upd_same), r.mono (same_new hI)⟩
    | dk xs => obtain ⟨vs, q, r⟩ := hM; exact ⟨_, q, a, vs, rfl, .inl upd_same, r.keeps (.of_same (same_new hI))⟩
    | dt xs => obtain ⟨vs, q, r⟩ := hM; exact ⟨_, q, a, vs, rfl, .inl upd_same, r.keeps (.of_same (same_new hI))⟩
    | nt P w ks => cases hx
  have ok := Wd.fix_ok h.ok hI eo ht
  refine ⟨o, eo, rp, h.lk, ⟨h.le.tp, h.le.lk, h.le.I.trans (same_new hI), h.le.H, fun b e n => ?_, h.le.dom⟩, ok, h.len, fun i s e => ?_, fun b mb e => ?_, fun b mb e => ?_⟩
  · show upd w.I a o b = none
    rw [upd_ne fun z => n (by rw [z]; exact h0)]
    exact h.le.fr b e n
  · obtain ⟨hos, q⟩ := h.sl i s e
    refine ⟨hos, ?_⟩
    cases s with
    | un => exact True.intro
    | dat d => obtain ⟨v, e, r⟩ := q; exact ⟨v, e, r.mono (same_new hI)⟩
    | tape => exact q
    | lst xs => cases hos
    | dk xs => cases hos
    | dt xs => cases hos
  · have nb : b ≠ a := fun z => by subst z; rw [show μ.del b b = none from if_pos rfl] at e; cases e
    rw [show μ.del a b = μ b from if_neg nb] at e
    obtain ⟨h1, h2, h3⟩ := h.mu b mb e
    exact ⟨by show upd w.I a o b = none; rw [upd_ne nb]; exact h1, h2, h3.mono (same_new hI) fun u q => q⟩
  · have nb : b ≠ a := fun z => by subst z; rw [show μ.del b b = none from if_pos rfl] at e; cases e
    rw [show μ.del a b = μ b from if_neg nb] at e
    exact h.own b mb e
theorem set_same {σ : St} {i : Nat} {x : Option V} (h : σ[i]? = some x) : σ.set i x = σ := by
  refine List.ext_getElem? fun j => ?_
  by_cases e : i = j
  · subst e
    rw [List.getElem?_set_self (List.getElem?_eq_some_iff.mp h).1, h]
  · rw [List.getElem?_set_ne e]
theorem sx_freeze {i : Nat} {a : Addr} {m : MO} (hi : ρ[i]? = some (.dat (.mref a))) (hm : μ a = some m) (hl : ¬ L a) (k : StX K lk L t (ρ.set i (.dat m.dat)) (μ.del a) p) (hx : m.isNt = false := by rfl) : StX K lk L t ρ μ p := fun w0 w σ E s f => by
  obtain ⟨o, eo, rp, s'⟩ := s.freeze hm hl hx
  obtain ⟨_, v, ev, rv⟩ := s.sl i _ hi
  rw [show v = .ref a from rv] at ev
  have z := s'.set i (d := m.dat) (v := .ref a) rp
  rw [set_same ev] at z
  exact k w0 (w.fix a o) σ E z f
/-! ### calls that change what they are given -/
def spX (K : PySem.W.Frag) {α : Type} (enc : α → List Ar) (pre : α → Mu → Prop) (post : α → Mu → D → Mu → Prop) : Sp := fun vs H Q _ =>
  ∃ (x : α) (w : Wd) (μ : Mu), w.H = H ∧ w.Ok ∧ MuOk K w μ ∧ ArsOk K w (enc x) vs ∧ pre x μ ∧ ∀ (v : V) (w' : Wd) (d : D) (μ' : Mu), w.lex (fun a => μ a ≠ none) w' → w'.Ok → MuOk K w' μ' → (∀ a m, μ' a = some m → μ a ≠ none ∨ w.H a = none) → Rp K w'.I d v → post x μ d μ' → Q v w'.H
theorem ex_callS {sp : Sp} {α : Type} {enc : α → List Ar} {pre : α → Mu → Prop} {post : α → Mu → D → Mu → Prop} {E : XK} {ta : TA} {C : List Ar → Mu → Prop} (hsp : ∀ vs H Q E, spX K enc pre post vs H Q E → sp vs H Q E) (h : AX K lk L ta ρ μ C) (i : ∀ as μ1, C as μ1 → ∃ x, as = enc x ∧ pre x μ1 ∧ ∀ d μ2, post x μ1 d μ2 → X d μ2) : EX K lk L (tCall sp [] E ta) ρ μ X := fun w0 w σ s Q g =>
  h w0 w σ s _ fun vs w1 as μ1 s1 r1 c => by
    obtain ⟨x, rfl, px, k⟩ := i as μ1 c
    rw [List.append_nil]
    refine hsp _ _ _ _ ⟨x, w1, μ1, rfl, s1.ok, s1.mu, r1, px, fun v w2 d μ2 l ok2 m2 o2 r2 q => g v w2 d μ2 ?_ r2 (k d μ2 q)⟩
    refine ⟨l.lk.trans s1.lk, s1.le.trans l fun a na => ?_, ok2, s1.len, fun j t e => ?_, m2, fun a m e => ?_⟩
    · cases e : μ1 a with
      | none => exact absurd e na
      | some m => exact s1.own a m e
    · obtain ⟨ho, q⟩ := s1.sl j t e
      refine ⟨ho, ?_⟩
      cases t with
      | un => exact True.intro
      | dat d => obtain ⟨v, e, r⟩ := q; exact ⟨v, e, r.mono l.I⟩
      | tape => obtain ⟨a, e, r⟩ := q; exact ⟨a, e, l.tp.trans r⟩
      | lst xs => cases ho
      | dk xs => cases ho
      | dt xs => cases ho
    · rcases o2 a m e with z | z
      · cases e1 : μ1 a with
        | none => exact absurd e1 z
        | some m1 => exact s1.own a m1 e1
      · exact .inr (s1.le.dom a z)
theorem ex_call {α : Type} {enc : α → List Ar} {pre : α → Mu → Prop} {post : α → Mu → D → Mu → Prop} {E : XK} {ta : TA} {C : List Ar → Mu → Prop} (h : AX K lk L ta ρ μ C) (i : ∀ as μ1, C as μ1 → ∃ x, as = enc x ∧ pre x μ1 ∧ ∀ d μ2, post x μ1 d μ2 → X d μ2) : EX K lk L (tCall (spX K enc pre post) [] E ta) ρ μ X := ex_callS (fun _ _ _ _ z => z) h i
/-- the reading of such a promise's body -/
def FnX (R : D → Mu → Prop) : PoX := { nx := fun _ μ => R .non μ, rt := R }
theorem sx_start {w : Wd} {N : List Str} {as : List Ar} {vs : List V} (ok : w.Ok) (m : MuOk K w μ) (h : ArsOk K w as vs) : Sx K w.lk (fun a => μ a ≠ none) w w (L2.start N vs) (startS N.length as) μ := by
  have sr : Sr K w.lk w w (L2.start N vs) (startS N.length as) := sr_start ok h
  refine ⟨rfl, (Wd.le.refl w).lex, ok, sr.len, fun i s e => ⟨?_, sr.sl i s e⟩, m, fun a x e => .inl (by rw [e]; exact fun z => nomatch z)⟩
  unfold startS at e
  by_cases hi : i < as.length
  · rw [List.getElem?_append_left (by rw [List.length_map]; exact hi)] at e
    exact (start_at i s h e).2
  · rw [List.getElem?_append_right (by rw [List.length_map]; omega)] at e
    rw [List.eq_of_mem_replicate (List.mem_of_getElem? e)]
    rfl
theorem spx_run {α : Type} {enc : α → List Ar} {pre : α → Mu → Prop} {post : α → Mu → D → Mu → Prop} {t : TS} {N : List Str} (n : Nat) (hn : N.length = n)
    (h : ∀ lk x μ, pre x μ → StX K lk (fun a => μ a ≠ none) t (startS n (enc x)) μ (FnX (post x μ))) (vs : List V) (H : Hp) (Q : VK) (E : XK) (hs : spX K enc pre post vs H Q E) : t { nx := fun _ H' => Q .non H', rt := Q } (L2.start N vs) H := by
  obtain ⟨x, w, μ, rfl, ok, m, ar, px, g⟩ := hs
  have sx : Sx K w.lk (fun a => μ a ≠ none) w w (L2.start N vs) (startS n (enc x)) μ := by rw [← hn]; exact sx_start ok m ar
  exact h w.lk x μ px w w _ _ sx ⟨fun σ w' ρ μ' s' q => g .non w' .non μ' s'.le s'.ok s'.mu (fun a mm e => s'.own a mm e) rfl q, fun v w' d μ' l ok' _ m' o r q => g v w' d μ' l ok' m' o r q, fun _ _ _ _ _ z => z.elim, fun _ _ _ _ _ z => z.elim⟩
theorem spx_len {α : Type} {enc : α → List Ar} {pre : α → Mu → Prop} {post : α → Mu → D → Mu → Prop} {n : Nat} (h : ∀ x, (enc x).length = n) (vs : List V) (H : Hp) (Q : VK) (E : XK) (hs : spX K enc pre post vs H Q E) : vs.length = n := by
  obtain ⟨x, w, μ, rfl, ok, m, ar, px, g⟩ := hs
  rw [ars_len ar, h]
/-- a def that changes only what it makes itself keeps an old promise -/
theorem sp_runX {needs : Bool} {α : Type} {enc : α → List Ar} {pre : α → Prop} {post : α → D → Prop} {t : TS} {N : List Str} (n : Nat) (hn : N.length = n)
    (h : ∀ lk, (needs = true → lk = false) → ∀ x, pre x → StX K lk noL t (startS n (enc x)) mu0 (FnX fun d _ => post x d)) (vs : List V) (H : Hp) (Q : VK) (E : XK) (hs : spP K needs enc pre post vs H Q E) : t { nx := fun _ H' => Q .non H', rt := Q } (L2.start N vs) H := by
  obtain ⟨x, w, rfl, ok, nd, ar, px, g⟩ := hs
  have m0 : MuOk K w mu0 := fun a m e => nomatch e
  have s0 : Sx K w.lk (fun a => mu0 a ≠ none) w w (L2.start N vs) (startS N.length (enc x)) mu0 := sx_start ok m0 ar
  rw [hn] at s0
  have sx : Sx K w.lk noL w w (L2.start N vs) (startS n (enc x)) mu0 := ⟨s0.lk, (Wd.le.refl w).lex, s0.ok, s0.len, s0.sl, s0.mu, fun a m e => nomatch e⟩
  exact h w.lk nd x px w w _ _ sx ⟨fun σ w' ρ μ' s' q => g .non w' .non s'.le.le s'.ok rfl q, fun v w' d μ' l ok' _ _ _ r q => g v w' d l.le ok' r q, fun _ _ _ _ _ z => z.elim, fun _ _ _ _ _ z => z.elim⟩
end
end RF

set_option Elab.async false
set_option linter.all false
set_option maxRecDepth 100000
set_option maxHeartbeats 4000000
set_option autoImplicit false
namespace RF
open PySem L2
/-! ### the view: what is changeable, as it stands now -/
def der (μ : Mu) : Nat → D → D
  | n + 1, .mref a => match μ a with
    | some (.lst xs) => .lst (xs.map (der μ n))
    | some (.dk kvs) => .dk (kvs.map fun p => (p.1, der μ n p.2))
    | some (.dt kvs) => .dt (kvs.map fun p => (p.1, der μ n p.2))
    | some (.nt _ _ _) => .mref a
    | none => .mref a
  | _, d => d
def derS (μ : Mu) (n : Nat) : Sl → Sl
  | .dat d => .dat (der μ n d)
  | .tape => .un
  | s => s
def Wd.frz (w : Wd) (μ : Mu) : Wd := { I := fun a => match μ a with | some _ => w.H a | none => w.I a, H := w.H, tp := none, lk := w.lk }
def Wd.thaw (w w' : Wd) (μ : Mu) : Wd := { I := fun a => match μ a with | some _ => none | none => w'.I a, H := w'.H, tp := w.tp, lk := w'.lk }
mutual
/-- rests on no list and no dict -/
def Fl : D → Bool
  | .lst _ => false
  | .li _ => false
  | .dk _ => false
  | .dt _ => false
  | .fk _ => false
  | .ft _ => false
  | .tup xs => FlL xs
  | _ => true
def FlL : List D → Bool
  | [] => true
  | d :: ds => Fl d && FlL ds
end
section
variable {K : PySem.W.Frag} {lk : Bool} {w0 w w' w1 : Wd} {μ μ' : Mu} {L L' : Addr → Prop} {σ σ' : St} {ρ ρ' : List Sl} {te ta tb : TE} {tt tu : TT} {t u : TS} {p : PoX} {P : D → Prop} {X : D → Mu → Prop} {d : D} {g : TG} {wi : TI}
theorem frz_some {a : Addr} {m : MO} (h : μ a = some m) : (w.frz μ).I a = w.H a := by show (match μ a with | some _ => w.H a | none => w.I a) = _; rw [h]
theorem frz_none {a : Addr} (h : μ a = none) : (w.frz μ).I a = w.I a := by show (match μ a with | some _ => w.H a | none => w.I a) = _; rw [h]
theorem thaw_some {a : Addr} {m : MO} (h : μ a = some m) : (w.thaw w' μ).I a = none := by show (match μ a with | some _ => none | none => w'.I a) = _; rw [h]
theorem thaw_none {a : Addr} (h : μ a = none) : (w.thaw w' μ).I a = w'.I a := by show (match μ a with | some _ => none | none => w'.I a) = _; rw [h]
theorem frz_same (m : MuOk K w μ) : Same w.I (w.frz μ).I := fun a o e => by
  cases z : μ a with
  | none => rw [frz_none z]; exact e
  | some x => rw [(m a x z).1] at e; cases e
theorem frz_ok (ok : w.Ok) : (w.frz μ).Ok where
  sub := fun a o e => by
    cases z : μ a with
    | none => rw [frz_none z] at e; exact ok.sub _ _ e
    | some x => rw [frz_some z] at e; exact e
  tape := fun a e => by cases (show (none : Option Addr) = some a from e)
  nolk := ok.nolk
  tups := fun a xs e => by
    cases z : μ a with
    | none => rw [frz_none z]; exact ok.tups a xs e
    | some x => rw [frz_some z]; exact e
theorem RpL.map {I J : Hp} {f : D → D} (h : ∀ d v, Rp K I d v → Rp K J (f d) v) : ∀ {ds : List D} {vs : List V}, RpL K I ds vs → RpL K J (ds.map f) vs
  | [], _, r => r
  | d :: ds, _, ⟨x, t, e, r, q⟩ => ⟨x, t, e, h d x r, RpL.map h q⟩
theorem RpK.map {I J : Hp} {f : D → D} (h : ∀ d v, Rp K I d v → Rp K J (f d) v) : ∀ {ds : List (Key × D)} {vs : List (Key × V)}, RpK K I ds vs → RpK K J (ds.map fun p => (p.1, f p.2)) vs
  | [], _, r => r
  | (k, d) :: ds, _, ⟨x, t, e, r, q⟩ => ⟨x, t, e, h d x r, RpK.map h q⟩
theorem RpT.map {I J : Hp} {f : D → D} (h : ∀ d v, Rp K I d v → Rp K J (f d) v) : ∀ {ds : List (List Key × D)} {vs : List (List Key × V)}, RpT K I ds vs → RpT K J (ds.map fun p => (p.1, f p.2)) vs
  | [], _, r => r
  | (k, d) :: ds, _, ⟨x, t, e, r, q⟩ => ⟨x, t, e, h d x r, RpT.map h q⟩
theorem der_rp (m : MuOk K w μ) : ∀ (n : Nat) (d : D) (v : V), Rp K w.I d v → Rp K (w.frz μ).I (der μ n d) v
  | 0, d, v, r => by
    have e : der μ 0 d = d := by unfold der; rfl
    rw [e]
    exact r.mono (frz_same m)
  | n + 1, d, v, r => by
    have old : (∀ a, d ≠ .mref a) → der μ (n + 1) d = d := fun h => by
      cases d <;> first | rfl | exact absurd rfl (h _)
    by_cases z : ∃ a, d = .mref a
    · obtain ⟨a, rfl⟩ := z
      rw [show v = .ref a from r]
      cases e : μ a with
      | none =>
        have e2 : der μ (n + 1) (.mref a) = .mref a := by simp only [der, e]
        rw [e2]
        exact rfl
      | some x =>
        obtain ⟨hI, ht, hM⟩ := m a x e
        have hf : (w.frz μ).I a = w.H a := frz_some e
        cases x with
        | lst xs =>
          obtain ⟨vs, q, r⟩ := hM
          have e2 : der μ (n + 1) (.mref a) = .lst (xs.map (der μ n)) := by simp only [der, e]
          rw [e2]
          exact ⟨a, vs, rfl, .inl (.inl (by rw [hf]; exact q)), r.map (der_rp m n)⟩
        | dk xs =>
          obtain ⟨vs, q, r⟩ := hM
          have e2 : der μ (n + 1) (.mref a) = .dk (xs.map fun p => (p.1, der μ n p.2)) := by simp only [der, e]
          rw [e2]
          exact ⟨a, vs, rfl, .inl (by rw [hf]; exact q), r.map (der_rp m n)⟩
        | dt xs =>
          obtain ⟨vs, q, r⟩ := hM
          have e2 : der μ (n + 1) (.mref a) = .dt (xs.map fun p => (p.1, der μ n p.2)) := by simp only [der, e]
          rw [e2]
          exact ⟨a, vs, rfl, .inl (by rw [hf]; exact q), r.map (der_rp m n)⟩
        | nt P w ks =>
          have e2 : der μ (n + 1) (.mref a) = .mref a := by simp only [der, e]
          rw [e2]
          exact rfl
    · rw [old fun a e => z ⟨a, e⟩]
      exact r.mono (frz_same m)
theorem Sx.view (h : Sx K lk L w0 w σ ρ μ) (n : Nat) : Sr K lk (w.frz μ) (w.frz μ) σ (ρ.map (derS μ n)) := by
  have key : ∀ (i : Nat) (s : Sl), (ρ.map (derS μ n))[i]? = some s → SlOk K (w.frz μ) (w.frz μ) s σ[i]? ∧ isOwn s = false := fun i s e => by
    rw [List.getElem?_map] at e
    cases z : ρ[i]? with
    | none => rw [z] at e; cases e
    | some t =>
      rw [z] at e
      have e : derS μ n t = s := Option.some.inj e
      subst e
      obtain ⟨ho, q⟩ := h.sl i t z
      cases t with
      | un => exact ⟨True.intro, rfl⟩
      | dat d => obtain ⟨v, e, r⟩ := q; exact ⟨⟨v, e, der_rp h.mu n d v r⟩, rfl⟩
      | tape => exact ⟨True.intro, rfl⟩
      | lst xs => cases ho
      | dk xs => cases ho
      | dt xs => cases ho
  exact ⟨h.lk, .refl _, frz_ok h.ok, by rw [List.length_map]; exact h.len, fun i s e => (key i s e).1, fun i j s t a e1 e2 o1 => by rw [(key i s e1).2] at o1; cases o1⟩
theorem notmu (m : MuOk K w μ) (l : (w.frz μ).le w') {a : Addr} {o : HO} (e : w'.I a = some o) (ho : (∀ xs, o ≠ .lst xs) ∧ (∀ xs, o ≠ .dK xs) ∧ (∀ xs, o ≠ .dT xs) ∧ ∀ f, o ≠ .ext f) : μ a = none := by
  cases z : μ a with
  | none => rfl
  | some x =>
    obtain ⟨hI, ht, hM⟩ := m a x z
    have hf : (w.frz μ).I a = w.H a := frz_some z
    cases x with
    | lst xs => obtain ⟨vs, q, _⟩ := hM; rw [q] at hf; rw [l.I _ _ hf] at e; cases e; exact absurd rfl (ho.1 _)
    | dk xs => obtain ⟨vs, q, _⟩ := hM; rw [q] at hf; rw [l.I _ _ hf] at e; cases e; exact absurd rfl (ho.2.1 _)
    | dt xs => obtain ⟨vs, q, _⟩ := hM; rw [q] at hf; rw [l.I _ _ hf] at e; cases e; exact absurd rfl (ho.2.2.1 _)
    | nt P w ks => obtain ⟨vs, q, _⟩ := hM; rw [q] at hf; rw [l.I _ _ hf] at e; cases e; exact absurd rfl (ho.2.2.2 _)
theorem notmu_tup (m : MuOk K w μ) (l : (w.frz μ).le w') {a : Addr} {xs : List V} (e : w'.I a = some (.tup xs)) : (w.thaw w' μ).I a = some (.tup xs) := by
  rw [thaw_none (notmu m l e ⟨(fun _ z => by cases z), (fun _ z => by cases z), (fun _ z => by cases z), (fun _ z => by cases z)⟩)]
  exact e
theorem notmu_frz (m : MuOk K w μ) (l : (w.frz μ).le w') {a : Addr} {o : Obj} {u : HO} (e : w'.I a = some (.frz o u)) : (w.thaw w' μ).I a = some (.frz o u) := by
  rw [thaw_none (notmu m l e ⟨(fun _ z => by cases z), (fun _ z => by cases z), (fun _ z => by cases z), (fun _ z => by cases z)⟩)]
  exact e
mutual
theorem fl_rp (m : MuOk K w μ) (l : (w.frz μ).le w') : ∀ {d : D} {v : V}, Fl d = true → Rp K w'.I d v → Rp K (w.thaw w' μ).I d v
  | .non, _, _, r => r
  | .bl _, _, _, r => r
  | .int _, _, _, r => r
  | .str _, _, _, r => r
  | .mref _, _, _, r => r
  | .tup ds, _, f, ⟨a, xs, e, s, r⟩ => ⟨a, xs, e, (match s with
      | .inl (.inl h) => .inl (.inl (notmu_tup m l h))
      | .inl (.inr ⟨o, h⟩) => .inl (.inr ⟨o, notmu_frz m l h⟩)
      | .inr h => .inr h), flL_rp m l (by unfold Fl at f; exact f) r⟩
  | .tk ks, _, _, ⟨a, e, s⟩ => ⟨a, e, notmu_tup m l s⟩
  | .tf ss, _, _, ⟨a, o, e, s, r⟩ => ⟨a, o, e, notmu_frz m l s, r⟩
  | .lst _, _, f, _ => by unfold Fl at f; cases f
  | .li _, _, f, _ => by unfold Fl at f; cases f
  | .dk _, _, f, _ => by unfold Fl at f; cases f
  | .dt _, _, f, _ => by unfold Fl at f; cases f
  | .fk _, _, f, _ => by unfold Fl at f; cases f
  | .ft _, _, f, _ => by unfold Fl at f; cases f
theorem flL_rp (m : MuOk K w μ) (l : (w.frz μ).le w') : ∀ {ds : List D} {vs : List V}, FlL ds = true → RpL K w'.I ds vs → RpL K (w.thaw w' μ).I ds vs
  | [], _, _, r => r
  | d :: ds, _, f, ⟨x, t, e, r, q⟩ => by
    unfold FlL at f
    rw [Bool.and_eq_true] at f
    exact ⟨x, t, e, fl_rp m l f.1 r, flL_rp m l f.2 q⟩
end
theorem thaw_le (ok : w.Ok) (m : MuOk K w μ) (l : (w.frz μ).le w') (ok' : w'.Ok) : w.le (w.thaw w' μ) ∧ (w.thaw w' μ).Ok := by
  have lH : ∀ a o, w.H a = some o → w'.H a = some o := fun a o e => l.H a o e fun z => by cases (show (none : Option Addr) = some a from z)
  have sm : Same w.I (w.thaw w' μ).I := fun a o e => by
    have z : μ a = none := by
      cases z : μ a with
      | none => rfl
      | some x => rw [(m a x z).1] at e; cases e
    rw [thaw_none z]
    exact l.I a o (by rw [frz_none z]; exact e)
  have fr : ∀ a, w.I a = none → w.H a ≠ none → (w.thaw w' μ).I a = none := fun a e n => by
    cases z : μ a with
    | some x => exact thaw_some z
    | none => rw [thaw_none z]; exact l.fr a (by rw [frz_none z]; exact e) n
  refine ⟨⟨rfl, l.lk, sm, fun a o e _ => lH a o e, fr, l.dom⟩, ⟨fun a o e => ?_, fun a e => ?_, fun e => ok'.nolk e, fun a xs e => notmu_tup m l (ok'.tups a xs e)⟩⟩
  · cases z : μ a with
    | some x => rw [thaw_some z] at e; cases e
    | none => rw [thaw_none z] at e; exact ok'.sub _ _ e
  · obtain ⟨hI, b, x, c, ns, hH, rd, h0, hl⟩ := ok.tape a e
    exact ⟨fr a hI (by rw [hH]; exact fun z => nomatch z), b, x, c, ns, lH _ _ hH, rd_same sm rd, h0, hl⟩
/-- a pure expression over the view -/
theorem exv (n : Nat) (h : EvS K lk te (ρ.map (derS μ n)) P) (hf : ∀ d, P d → Fl d = true) : EX K lk L te ρ μ (fun d μ' => P d ∧ μ' = μ) := fun w0 w σ s Q g => h _ _ σ (s.view n) Q fun v w' d l ok' r q => by
  obtain ⟨l2, ok2⟩ := thaw_le s.ok s.mu l ok'
  exact g v (w.thaw w' μ) d μ (s.mono l2 ok2) (fl_rp s.mu l (hf d q) r) ⟨q, rfl⟩
theorem txv (n : Nat) {T : Bool → Prop} (h : EvT K lk tt (ρ.map (derS μ n)) T) : TX K lk L tt ρ μ (fun b μ' => T b ∧ μ' = μ) := fun w0 w σ s Q g => h _ _ σ (s.view n) Q fun b w' l ok' q => by
  obtain ⟨l2, ok2⟩ := thaw_le s.ok s.mu l ok'
  exact g b (w.thaw w' μ) μ (s.mono l2 ok2) ⟨q, rfl⟩
end
end RF

set_option Elab.async false
set_option linter.all false
set_option maxRecDepth 100000
set_option maxHeartbeats 4000000
set_option autoImplicit false
namespace RF
open PySem L2
/-! ### what is held fast -/
/-- a thing of nobody's becomes one that is held fast -/
def Wd.fz (w : Wd) (a : Addr) (o : HO) : Wd := { w with I := upd w.I a o, H := upd w.H a o }
section
variable {K : PySem.W.Frag} {lk : Bool} {w0 w w' w1 : Wd} {μ μ' : Mu} {L L' : Addr → Prop} {σ σ' : St} {ρ ρ' : List Sl} {te ta tb : TE} {tt tu : TT} {t u : TS} {p : PoX} {P : D → Prop} {X : D → Mu → Prop} {d : D} {g : TG} {wi : TI}
theorem fz_ok (ok : w.Ok) {a : Addr} {od : Obj} {u x : HO} (hI : w.I a = none) (hH : w.H a = some x) (hx : plainP x) (ht : w.tp ≠ some a) : (w.fz a (.frz od u)).Ok where
  sub := fun b z e => by
    have e : upd w.I a (.frz od u) b = some z := e
    show upd w.H a (.frz od u) b = some z
    by_cases q : b = a
    · subst q; rw [upd_same] at e ⊢; exact e
    · rw [upd_ne q] at e ⊢; exact ok.sub _ _ e
  tape := fun b e => (ok.tape b e).mono (same_new hI) (by show upd w.I a _ b = none; rw [upd_ne fun z => ht (by rw [← z]; exact e)]; exact (ok.tape b e).1) (by show upd w.H a _ b = _; rw [upd_ne fun z => ht (by rw [← z]; exact e)])
  nolk := fun _ => True.intro
  tups := fun b xs e => by
    have e : upd w.H a (.frz od u) b = some (.tup xs) := e
    show upd w.I a (.frz od u) b = some (.tup xs)
    by_cases q : b = a
    · subst q; rw [upd_same] at e; cases e
    · rw [upd_ne q] at e ⊢; exact ok.tups _ _ e
theorem le_fz (l : w0.le w) {a : Addr} {o : HO} (h0 : w0.H a = none) (hI : w.I a = none) : w0.le (w.fz a o) where
  tp := l.tp
  lk := l.lk
  I := l.I.trans (same_new hI)
  H := fun b u e n => by
    show upd w.H a o b = some u
    rw [upd_ne (ne_of_none e h0)]
    exact l.H b u e n
  fr := fun b e n => by
    show upd w.I a o b = none
    rw [upd_ne fun z => n (by rw [z]; exact h0)]
    exact l.fr b e n
  dom := fun b e => by
    have e : upd w.H a o b = none := e
    by_cases z : b = a
    · subst z; exact h0
    · rw [upd_ne z] at e; exact l.dom b e
theorem ev_fz (h : EvS K lk te ρ P) : EvS K lk (eFz te) ρ P := fun w0 w σ s Q g => h w0 w σ s _ fun v w' d l ok r q => .inl (g v w' d l ok r q)
theorem ev_fk {kvs : List (Key × D)} (h : EvD K lk te ρ (.fk kvs)) : EvD K lk te ρ (.dk kvs) := fun w0 w σ s Q g => h w0 w σ s Q fun v w' d l ok r e => g v w' (.dk kvs) l ok (fk_dk (by rw [← show d = _ from e]; exact r)) rfl
theorem ev_ft {kvs : List (List Key × D)} (h : EvD K lk te ρ (.ft kvs)) : EvD K lk te ρ (.dt kvs) := fun w0 w σ s Q g => h w0 w σ s Q fun v w' d l ok r e => g v w' (.dt kvs) l ok (ft_dt (by rw [← show d = _ from e]; exact r)) rfl
/-! keys and pairs of what is held fast -/
theorem keys_yield {a : Addr} {o : Obj} {kvs : List (Key × D)} {es : List (Key × V)} (hI : w.I a = some (.frz o (.dK es))) (he : es.map (·.1) = kvs.map (·.1)) : Yields K w (Itk a o es) (kvs.map fun q => kD q.1) := by
  have hl : es.length = kvs.length := by have := congrArg List.length he; rw [List.length_map, List.length_map] at this; exact this
  refine ⟨fun i w' ok' sm hi => ?_, fun i w' v H' ok' sm y x hx => ?_, fun w' ok' sm => ?_⟩
  · rw [List.length_map] at hi
    exact ⟨ok'.sub _ _ (sm _ _ hI), by omega⟩
  · obtain ⟨e, k, v', hk, ev⟩ := y
    have h1 : (es.map (·.1))[i]? = some k := by rw [List.getElem?_map, hk]; rfl
    rw [he, List.getElem?_map] at h1
    rw [List.getElem?_map] at hx
    cases hq : kvs[i]? with
    | none => rw [hq] at hx; cases hx
    | some q =>
      rw [hq] at hx h1
      cases hx
      cases h1
      subst ev
      exact ⟨w', e.symm, .refl w', ok', kD_rp _⟩
  · rw [List.length_map]
    exact ⟨ok'.sub _ _ (sm _ _ hI), by omega⟩
theorem keysT_yield {a : Addr} {o : Obj} {kvs : List (List Key × D)} {es : List (List Key × V)} (hI : w.I a = some (.frz o (.dT es))) (he : es.map (·.1) = kvs.map (·.1)) : Yields K w (Itkt a o es) (kvs.map fun q => D.tk q.1) := by
  have hl : es.length = kvs.length := by have := congrArg List.length he; rw [List.length_map, List.length_map] at this; exact this
  refine ⟨fun i w' ok' sm hi => ?_, fun i w' v H' ok' sm y x hx => ?_, fun w' ok' sm => ?_⟩
  · rw [List.length_map] at hi
    exact ⟨ok'.sub _ _ (sm _ _ hI), by omega⟩
  · obtain ⟨e, k, v', b, hk, ev, hb⟩ := y
    have h1 : (es.map (·.1))[i]? = some k := by rw [List.getElem?_map, hk]; rfl
    rw [he, List.getElem?_map] at h1
    rw [List.getElem?_map] at hx
    cases hq : kvs[i]? with
    | none => rw [hq] at hx; cases hx
    | some q =>
      rw [hq] at hx h1
      cases hx
      cases h1
      subst ev
      exact ⟨w', e.symm, .refl w', ok', b, rfl, ok'.tups _ _ hb⟩
  · rw [List.length_map]
    exact ⟨ok'.sub _ _ (sm _ _ hI), by omega⟩
theorem RpK.at {I : Hp} : ∀ {ds : List (Key × D)} {vs : List (Key × V)} {i : Nat} {k : Key} {v : V}, RpK K I ds vs → vs[i]? = some (k, v) → ∃ d, ds[i]? = some (k, d) ∧ Rp K I d v
  | [], _, i, k, v, r, h => by rw [show _ = [] from r] at h; simp at h
  | (j, d) :: ds, _, 0, k, v, ⟨x, t, e, r, q⟩, h => by
    subst e
    have h : (j, x) = (k, v) := Option.some.inj h
    cases h
    exact ⟨d, rfl, r⟩
  | (j, d) :: ds, _, i + 1, k, v, ⟨x, t, e, r, q⟩, h => by
    subst e
    exact RpK.at (i := i) q h
theorem RpT.at {I : Hp} : ∀ {ds : List (List Key × D)} {vs : List (List Key × V)} {i : Nat} {k : List Key} {v : V}, RpT K I ds vs → vs[i]? = some (k, v) → ∃ d, ds[i]? = some (k, d) ∧ Rp K I d v
  | [], _, i, k, v, r, h => by rw [show _ = [] from r] at h; simp at h
  | (j, d) :: ds, _, 0, k, v, ⟨x, t, e, r, q⟩, h => by
    subst e
    have h : (j, x) = (k, v) := Option.some.inj h
    cases h
    exact ⟨d, rfl, r⟩
  | (j, d) :: ds, _, i + 1, k, v, ⟨x, t, e, r, q⟩, h => by
    subst e
    exact RpT.at (i := i) q h
theorem items_yield {a : Addr} {o : Obj} {kvs : List (Key × D)} {es : List (Key × V)} (hI : w.I a = some (.frz o (.dK es))) (r : RpK K w.I kvs es) : Yields K w (Iti a o es) (kvs.map fun q => .tup [kD q.1, q.2]) := by
  have hl := r.length
  refine ⟨fun i w' ok' sm hi => ?_, fun i w' v H' ok' sm y x hx => ?_, fun w' ok' sm => ?_⟩
  · rw [List.length_map] at hi
    exact ⟨ok'.sub _ _ (sm _ _ hI), by omega⟩
  · obtain ⟨T, k, v', hk, rfl, hT, rfl⟩ := y
    obtain ⟨d, hd, rd⟩ := r.at hk
    rw [List.getElem?_map, hd] at hx
    cases hx
    exact new_pair ok' hT (kD_rp k) (rd.mono sm)
  · rw [List.length_map]
    exact ⟨ok'.sub _ _ (sm _ _ hI), by omega⟩
theorem itemsT_yield {a : Addr} {o : Obj} {kvs : List (List Key × D)} {es : List (List Key × V)} (hI : w.I a = some (.frz o (.dT es))) (r : RpT K w.I kvs es) : Yields K w (ItiT a o es) (kvs.map fun q => .tup [.tk q.1, q.2]) := by
  have hl := r.length
  refine ⟨fun i w' ok' sm hi => ?_, fun i w' v H' ok' sm y x hx => ?_, fun w' ok' sm => ?_⟩
  · rw [List.length_map] at hi
    exact ⟨ok'.sub _ _ (sm _ _ hI), by omega⟩
  · obtain ⟨T, k, v', b, hk, hb, rfl, hT, rfl⟩ := y
    obtain ⟨d, hd, rd⟩ := r.at hk
    rw [List.getElem?_map, hd] at hx
    cases hx
    exact new_pair ok' hT (a := .tk k) ⟨b, rfl, ok'.tups _ _ hb⟩ (rd.mono sm)
  · rw [List.length_map]
    exact ⟨ok'.sub _ _ (sm _ _ hI), by omega⟩
end
/-! ### dicts, whatever their keys -/
structure Dk (κ : Type) [DecidableEq κ] where
  kd : κ → D
  mo : List (κ × D) → MO
  dd : List (κ × D) → D
  fd : List (κ × D) → D
  ho : List (κ × V) → HO
  rp : PySem.W.Frag → Hp → List (κ × D) → List (κ × V) → Prop
  kind : Bool
  hmut : ∀ es, Mut (some (ho es))
  hpl : ∀ es, plainP (ho es)
  empty : emptyD kind = ho []
  nil : ∀ K I, rp K I [] []
  len : ∀ {K I ds es}, rp K I ds es → es.length = ds.length
  keep : ∀ {K I J ds es}, Keeps I J → rp K I ds es → rp K J ds es
  put : ∀ {K I ds es k d v}, rp K I ds es → Rp K I d v → rp K I (putD ds k d) (putK es k v)
  get : ∀ {K I ds es} (k : κ), rp K I ds es → (getD' ds k = none ∧ valV es k = none) ∨ ∃ d v, getD' ds k = some d ∧ valV es k = some v ∧ Rp K I d v
  map : ∀ {K I J ds es} {f : D → D}, (∀ d v, Rp K I d v → Rp K J (f d) v) → rp K I ds es → rp K J (ds.map fun p => (p.1, f p.2)) es
  moAt : ∀ {K I H a kvs}, MoAt K I H a (mo kvs) ↔ ∃ es, H a = some (ho es) ∧ rp K I kvs es
  rdd : ∀ {K I v kvs}, Rp K I (dd kvs) v ↔ ∃ a es, v = .ref a ∧ Rd I a (ho es) ∧ rp K I kvs es
  rfd : ∀ {K I v kvs}, Rp K I (fd kvs) v ↔ ∃ a o es, v = .ref a ∧ I a = some (.frz o (ho es)) ∧ rp K I kvs es
  dput : ∀ {K} {w : Wd} {a : Addr} {es k y v}, w.Ok → w.H a = some (ho es) → Rp K w.I (kd k) y → es.length < sizeLine → DPut w.H a y v (upd w.H a (ho (putK es k v)))
  dget : ∀ {K} {w : Wd} {a : Addr} {es k y}, w.Ok → Rd w.H a (ho es) → Rp K w.I (kd k) y → DGet w.H a y (valV es k)
  fl : ∀ k, Fl (kd k) = true
  inj : ∀ k k', kd k = kd k' → k = k'
  newD : ∀ {σ : St} {H : Hp} {Q : VK}, (∀ a, H a = none → Q (.ref a) (upd H a (ho []))) → (eOr tDNewK tDNewT) σ H Q
  itk : ∀ {K lk} {te : TE} {ρ kvs}, EvD K lk te ρ (fd kvs) → ItS K lk (iKeys te) ρ (fun ys => ys = kvs.map fun q => kd q.1)
  iti : ∀ {K lk} {te : TE} {ρ kvs}, EvD K lk te ρ (fd kvs) → ItS K lk (iOr (iItems te) (iItemsT te)) ρ (fun ys => ys = kvs.map fun q => .tup [kd q.1, q.2])
  lenH : ∀ {H : Hp} {a : Addr} {es} {Q : VK}, Rd H a (ho es) → Q (.int ((es.length : Nat) : Int)) H → rLenDD [.ref a] H Q
def dkI : Dk Key where
  kd := kD
  mo := .dk
  dd := .dk
  fd := .fk
  ho := .dK
  rp := RpK
  kind := true
  hmut := fun _ => True.intro
  hpl := fun _ => True.intro
  empty := rfl
  nil := fun _ _ => rfl
  len := RpK.length
  keep := fun k r => r.keeps k
  put := fun r h => r.put h
  get := fun k r => r.get k
  map := fun h r => r.map h
  moAt := Iff.rfl
  rdd := Iff.rfl
  rfd := Iff.rfl
  dput := fun {K w a es k y v} ok e r l => .inl ⟨es, k, e, kD_inj (J := w.I) r, l, rfl⟩
  dget := fun {K w a es k y} ok e r => .inl ⟨es, k, e, kD_inj (J := w.I) r, rfl⟩
  fl := fun k => by cases k <;> simp [kD, Fl]
  inj := fun k k' e => by cases k <;> cases k' <;> simp [kD] at e <;> rw [e]
  newD := fun h => .inl h
  itk := fun {K lk te ρ kvs} h w0 w σ s R k => h w0 w σ s _ fun v w1 d l1 ok1 r1 e => by
    rw [show d = _ from e] at r1
    obtain ⟨a, o, es, e, hI, r⟩ := r1
    exact ⟨a, o, e, .inl ⟨es, ok1.sub _ _ hI, k _ w1 _ l1 ok1 rfl (keys_yield hI r.keys)⟩⟩
  iti := fun {K lk te ρ kvs} h => itl fun w0 w σ s R k => h w0 w σ s _ fun v w1 d l1 ok1 r1 e => by
    rw [show d = _ from e] at r1
    obtain ⟨a, o, es, e, hI, r⟩ := r1
    exact ⟨a, o, es, e, ok1.sub _ _ hI, k _ w1 _ l1 ok1 rfl (items_yield hI r)⟩
  lenH := fun {H a es Q} h q => ⟨a, rfl, .inl ⟨es, h, q⟩⟩
def dkT : Dk (List Key) where
  kd := .tk
  mo := .dt
  dd := .dt
  fd := .ft
  ho := .dT
  rp := RpT
  kind := false
  hmut := fun _ => True.intro
  hpl := fun _ => True.intro
  empty := rfl
  nil := fun _ _ => rfl
  len := RpT.length
  keep := fun k r => r.keeps k
  put := fun r h => r.put h
  get := fun k r => r.get k
  map := fun h r => r.map h
  moAt := Iff.rfl
  rdd := Iff.rfl
  rfd := Iff.rfl
  dput := fun {K w a es k y v} ok e r l => by
    obtain ⟨b, rfl, hb⟩ := r
    exact .inr ⟨es, k, b, e, rfl, ok.sub _ _ hb, l, rfl⟩
  dget := fun {K w a es k y} ok e r => by
    obtain ⟨b, rfl, hb⟩ := r
    exact .inr ⟨es, k, b, e, rfl, ok.sub _ _ hb, rfl⟩
  fl := fun k => by simp [Fl]
  inj := fun k k' e => by cases e; rfl
  newD := fun h => .inr h
  itk := fun {K lk te ρ kvs} h w0 w σ s R k => h w0 w σ s _ fun v w1 d l1 ok1 r1 e => by
    rw [show d = _ from e] at r1
    obtain ⟨a, o, es, e, hI, r⟩ := r1
    exact ⟨a, o, e, .inr ⟨es, ok1.sub _ _ hI, k _ w1 _ l1 ok1 rfl (keysT_yield hI r.keys)⟩⟩
  iti := fun {K lk te ρ kvs} h => itr fun w0 w σ s R k => h w0 w σ s _ fun v w1 d l1 ok1 r1 e => by
    rw [show d = _ from e] at r1
    obtain ⟨a, o, es, e, hI, r⟩ := r1
    exact ⟨a, o, es, e, ok1.sub _ _ hI, k _ w1 _ l1 ok1 rfl (itemsT_yield hI r)⟩
  lenH := fun {H a es Q} h q => ⟨a, rfl, .inr ⟨es, h, q⟩⟩
section
variable {κ : Type} [DecidableEq κ] (A : Dk κ) {kvs : List (κ × D)} {k : κ}
variable {K : PySem.W.Frag} {lk : Bool} {w0 w w' w1 : Wd} {μ μ' : Mu} {L L' : Addr → Prop} {σ σ' : St} {ρ ρ' : List Sl} {te ta tb : TE} {tt tu : TT} {t u : TS} {p : PoX} {P : D → Prop} {X : D → Mu → Prop} {d : D} {g : TG} {wi : TI}
theorem Dk.fd_dd {I : Hp} {v : V} (h : Rp K I (A.fd kvs) v) : Rp K I (A.dd kvs) v := by
  obtain ⟨a, o, es, e, s, r⟩ := A.rfd.mp h
  exact A.rdd.mpr ⟨a, es, e, .inr ⟨o, s⟩, r⟩
theorem Dk.ev (h : EvD K lk te ρ (A.fd kvs)) : EvD K lk te ρ (A.dd kvs) := fun w0 w σ s Q g => h w0 w σ s Q fun v w' d l ok r e => g v w' (A.dd kvs) l ok (A.fd_dd (by rw [← show d = _ from e]; exact r)) rfl
/-! of data -/
theorem Dk.eget (ha : EvD K lk ta ρ (A.dd kvs)) (hb : EvD K lk tb ρ (A.kd k)) (h : getD' kvs k = some d) : EvD K lk (rIxU K ta tb) ρ d := ev_r (ev_r fun w0 w σ s Q g =>
  ha w0 w σ s _ fun v w1 x l1 ok1 r1 e => hb w0 w1 σ (s.mono l1 ok1) _ fun y w2 x2 l2 ok2 r2 e2 => by
    rw [show x = _ from e] at r1
    rw [show x2 = _ from e2] at r2
    obtain ⟨a, es, ev, rd, r⟩ := A.rdd.mp (r1.mono l2.I)
    rcases A.get k r with ⟨c, _⟩ | ⟨d', z, c, ez, rz⟩
    · rw [h] at c; cases c
    · rw [h] at c
      cases c
      refine ⟨a, z, ev, ?_, (g.up (l1.trans l2)).here ok2 rz rfl⟩
      rw [← ez]
      exact A.dget ok2 (rd_same ok2.sub rd) r2)
theorem isSome_of {α β : Type} {o : Option α} {q : Option β} (h : (o = none ∧ q = none) ∨ ∃ d v, o = some d ∧ q = some v) : q.isSome = o.isSome := by
  rcases h with ⟨a, b⟩ | ⟨_, _, a, b⟩ <;> rw [a, b] <;> rfl
theorem Dk.some_eq {I : Hp} {es : List (κ × V)} (r : A.rp K I kvs es) : (valV es k).isSome = (getD' kvs k).isSome := isSome_of ((A.get k r).imp id fun ⟨d, v, a, b, _⟩ => ⟨d, v, a, b⟩)
theorem Dk.enotin (ha : EvD K lk ta ρ (A.kd k)) (hb : EvD K lk tb ρ (A.dd kvs)) : EvB K lk (tNotInT K ta tb) ρ (!(getD' kvs k).isSome) := et_r (et_B fun w0 w σ s Q g =>
  ha w0 w σ s _ fun y w1 x l1 ok1 r1 e => hb w0 w1 σ (s.mono l1 ok1) _ fun v w2 x2 l2 ok2 r2 e2 => by
    rw [show x = _ from e] at r1
    rw [show x2 = _ from e2] at r2
    obtain ⟨a, es, ev, rd, r⟩ := A.rdd.mp r2
    refine ⟨a, valV es k, ev, A.dget ok2 (rd_same ok2.sub rd) (r1.mono l2.I), ?_⟩
    rw [A.some_eq r]
    exact (g.up (l1.trans l2)).here (d := .bl _) ok2 rfl rfl)
theorem Dk.ein (ha : EvD K lk ta ρ (A.kd k)) (hb : EvD K lk tb ρ (A.dd kvs)) : EvB K lk (tInT K ta tb) ρ (getD' kvs k).isSome := et_r (et_B fun w0 w σ s Q g =>
  ha w0 w σ s _ fun y w1 x l1 ok1 r1 e => hb w0 w1 σ (s.mono l1 ok1) _ fun v w2 x2 l2 ok2 r2 e2 => by
    rw [show x = _ from e] at r1
    rw [show x2 = _ from e2] at r2
    obtain ⟨a, es, ev, rd, r⟩ := A.rdd.mp r2
    refine ⟨a, valV es k, ev, A.dget ok2 (rd_same ok2.sub rd) (r1.mono l2.I), ?_⟩
    rw [A.some_eq r]
    exact (g.up (l1.trans l2)).here (d := .bl _) ok2 rfl rfl)
theorem Dk.elen (h : EvD K lk ta ρ (A.dd kvs)) : EvD K lk (tCB (rLenU K) (tCons ta tNil)) ρ (.int (kvs.length : Int)) := ev_cb1 (ea_cons h ea_nil) (rcr (rcr fun w vs ok _ r Q g => by
  obtain ⟨v, e, r⟩ := ars_one r
  obtain ⟨a, es, e2, rd, r2⟩ := A.rdd.mp r
  subst e e2
  refine A.lenH (rd_same ok.sub rd) ?_
  rw [A.len r2]
  exact g.here (d := .int _) ok rfl rfl))
/-! of what may be changed -/
theorem Dk.xview {a : Addr} {i : Nat} (hi : ρ[i]? = some (.dat (.mref a))) (hm : μ a = some (A.mo kvs)) : EvD K lk (tVar i) (ρ.map (derS μ 0)) (.mref a) := ev_v (by
  rw [List.getElem?_map, hi]
  rfl)
theorem Dk.xget {a : Addr} (ho : EvD K lk ta ρ (.mref a)) (hm : μ a = some (A.mo kvs)) (hk : EvD K lk tb ρ (A.kd k)) (h : getD' kvs k = some d) : EX K lk L (rIxU K ta tb) ρ μ (fun x μ' => x = d ∧ μ' = μ) := fun w0 w σ s Q g => .inr (.inr
  (ho w w σ s.sr _ fun v w1 x l1 ok1 r1 e => hk w w1 σ ((s.sr).mono l1 ok1) _ fun y w2 x2 l2 ok2 r2 e2 => by
    rw [show x = _ from e] at r1
    rw [show x2 = _ from e2] at r2
    have s2 := (s.mono l1 ok1).mono l2 ok2
    obtain ⟨hI, ht, hM⟩ := s2.mu a _ hm
    obtain ⟨es, hH, r⟩ := A.moAt.mp hM
    rcases A.get k r with ⟨c, _⟩ | ⟨d', z, c, ez, rz⟩
    · rw [h] at c; cases c
    · rw [h] at c
      cases c
      refine ⟨a, z, r1, ?_, g z w2 d μ s2 rz ⟨rfl, rfl⟩⟩
      rw [← ez]
      exact A.dget ok2 (.inl hH) r2))
theorem Dk.xnotin {a : Addr} (hk : EvD K lk ta ρ (A.kd k)) (ho : EvD K lk tb ρ (.mref a)) (hm : μ a = some (A.mo kvs)) : TX K lk L (tNotInT K ta tb) ρ μ (fun b μ' => b = (!(getD' kvs k).isSome) ∧ μ' = μ) := fun w0 w σ s Q g => .inr
  (hk w w σ s.sr _ fun y w1 x l1 ok1 r1 e => ho w w1 σ ((s.sr).mono l1 ok1) _ fun v w2 x2 l2 ok2 r2 e2 => by
    rw [show x = _ from e] at r1
    rw [show x2 = _ from e2] at r2
    have s2 := (s.mono l1 ok1).mono l2 ok2
    obtain ⟨hI, ht, hM⟩ := s2.mu a _ hm
    obtain ⟨es, hH, r⟩ := A.moAt.mp hM
    refine ⟨a, valV es k, r2, A.dget ok2 (.inl hH) (r1.mono l2.I), !(valV es k).isSome, rfl, g _ w2 μ s2 ⟨by rw [A.some_eq r], rfl⟩⟩)
theorem Dk.xin {a : Addr} (hk : EvD K lk ta ρ (A.kd k)) (ho : EvD K lk tb ρ (.mref a)) (hm : μ a = some (A.mo kvs)) : TX K lk L (tInT K ta tb) ρ μ (fun b μ' => b = (getD' kvs k).isSome ∧ μ' = μ) := fun w0 w σ s Q g => .inr
  (hk w w σ s.sr _ fun y w1 x l1 ok1 r1 e => ho w w1 σ ((s.sr).mono l1 ok1) _ fun v w2 x2 l2 ok2 r2 e2 => by
    rw [show x = _ from e] at r1
    rw [show x2 = _ from e2] at r2
    have s2 := (s.mono l1 ok1).mono l2 ok2
    obtain ⟨hI, ht, hM⟩ := s2.mu a _ hm
    obtain ⟨es, hH, r⟩ := A.moAt.mp hM
    refine ⟨a, valV es k, r2, A.dget ok2 (.inl hH) (r1.mono l2.I), (valV es k).isSome, rfl, g _ w2 μ s2 ⟨by rw [A.some_eq r], rfl⟩⟩)
/-- o[k] = e -/
theorem Dk.xput {to : TE} {a : Addr} (h : EX K lk L te ρ μ X) (ho : EvD K lk to ρ (.mref a)) (hk : EvD K lk tb ρ (A.kd k)) (hm : ∀ d μ1, X d μ1 → ∃ kvs, μ1 a = some (A.mo kvs) ∧ kvs.length < 10000000 ∧ p.nx ρ (μ1.put a (A.mo (putD kvs k d)))) : StX K lk L (sPutU to tb te) ρ μ p := fun w0 w σ E s f => .inr
  (h w0 w σ s _ fun v w1 d μ1 s1 r1 c => ho w1 w1 σ s1.sr _ fun v2 w2 d2 l2 ok2 r2 e2 => hk w2 w2 σ (s1.mono l2 ok2).sr _ fun y w3 x3 l3 ok3 r3 e3 => by
    rw [show d2 = _ from e2] at r2
    rw [show x3 = _ from e3] at r3
    have s3 := (s1.mono l2 ok2).mono l3 ok3
    obtain ⟨kvs, em, hl, q⟩ := hm d μ1 c
    obtain ⟨hI, ht, hM⟩ := s3.mu a _ em
    obtain ⟨es, hH, r⟩ := A.moAt.mp hM
    rw [show v2 = .ref a from r2]
    refine ⟨a, upd w3.H a (A.ho (putK es k v)), rfl, A.dput ok3 hH r3 (by rw [A.len r]; exact Nat.lt_trans hl (by decide)), ?_⟩
    exact f.nx σ (w3.put a (A.ho (putK es k v))) ρ _ (s3.put em (A.hpl _) (m' := A.mo (putD kvs k d)) (A.moAt.mpr ⟨_, upd_same, A.put r ((r1.mono l2.I).mono l3.I)⟩)) q)
/-- x = {} -/
theorem Dk.xnew {i : Nat} (k : ∀ a, μ a = none → StX K lk L u (ρ.set i (.dat (.mref a))) (μ.put a (A.mo [])) p) : StX K lk L (tSeq (tAsg (eOr tDNewK tDNewT) (gName i)) u) ρ μ p := fun w0 w σ E s f => A.newD fun a ha =>
  k a (s.notfree ha) w0 (w.put a (A.ho [])) _ E ((s.fresh ha (o := A.ho []) (A.hpl _) (m := A.mo []) (A.moAt.mpr ⟨[], upd_same, A.nil _ _⟩)).set i rfl) f
/-- {} as a value -/
theorem Dk.xnewE : EX K lk L (eOr tDNewK tDNewT) ρ μ (fun d μ' => ∃ a, μ a = none ∧ d = .mref a ∧ μ' = μ.put a (A.mo [])) := fun w0 w σ s Q g => A.newD fun a ha =>
  g (.ref a) (w.put a (A.ho [])) (.mref a) _ (s.fresh ha (o := A.ho []) (A.hpl _) (m := A.mo []) (A.moAt.mpr ⟨[], upd_same, A.nil _ _⟩)) rfl ⟨a, s.notfree ha, rfl, rfl⟩
/-- what is in the slot i is held fast from here on -/
theorem Sx.fz' (h : Sx K lk L w0 w σ ρ μ) {a : Addr} {o x : HO} {od : Obj} (hx : w.H a = some x) {m : MO} (hm : μ a = some m) (hp : plainP x) (h0 : w0.H a = none) : Sx K lk L w0 (w.fz a (.frz od o)) σ ρ (μ.del a) := by
  obtain ⟨hI, ht, hM⟩ := h.mu a m hm
  have ok := fz_ok (od := od) (u := o) h.ok hI hx hp ht
  have sm : Same w.I (upd w.I a (.frz od o)) := same_new hI
  refine ⟨h.lk, ⟨h.le.tp, h.le.lk, h.le.I.trans sm, fun b u e n nl => ?_, fun b e n => ?_, fun b e => ?_⟩, ok, h.len, fun i s e => ?_, fun b mb e => ?_, fun b mb e => ?_⟩
  · show upd w.H a _ b = some u
    rw [upd_ne (ne_of_none e h0)]
    exact h.le.H b u e n nl
  · show upd w.I a _ b = none
    rw [upd_ne fun z => n (by rw [z]; exact h0)]
    exact h.le.fr b e n
  · have e : upd w.H a (.frz od o) b = none := e
    by_cases z : b = a
    · subst z; exact h0
    · rw [upd_ne z] at e; exact h.le.dom b e
  · obtain ⟨hos, q⟩ := h.sl i s e
    refine ⟨hos, ?_⟩
    cases s with
    | un => exact True.intro
    | dat d => obtain ⟨v, e, r⟩ := q; exact ⟨v, e, r.mono sm⟩
    | tape => exact q
    | lst xs => cases hos
    | dk xs => cases hos
    | dt xs => cases hos
  · have nb : b ≠ a := fun z => by subst z; rw [show μ.del b b = none from if_pos rfl] at e; cases e
    rw [show μ.del a b = μ b from if_neg nb] at e
    obtain ⟨h1, h2, h3⟩ := h.mu b mb e
    exact ⟨by show upd w.I a _ b = none; rw [upd_ne nb]; exact h1, h2, h3.mono sm fun u q => by show upd w.H a _ b = some u; rw [upd_ne nb]; exact q⟩
  · have nb : b ≠ a := fun z => by subst z; rw [show μ.del b b = none from if_pos rfl] at e; cases e
    rw [show μ.del a b = μ b from if_neg nb] at e
    exact h.own b mb e
theorem Sx.fz (h : Sx K lk L w0 w σ ρ μ) {a : Addr} {o x : HO} {od : Obj} (hx : w.H a = some x) {m : MO} (hm : μ a = some m) (hp : plainP x) (hl : ¬ L a) : Sx K lk L w0 (w.fz a (.frz od o)) σ ρ (μ.del a) := h.fz' hx hm hp ((h.own a m hm).resolve_left hl)
theorem Dk.xfz {i : Nat} {a : Addr} (hi : ρ[i]? = some (.dat (.mref a))) (hm : μ a = some (A.mo kvs)) (hl : ¬ L a) (k : StX K lk L t (ρ.set i (.dat (A.fd kvs))) (μ.del a) p) : StX K lk L (tFz t) ρ μ p := fun w0 w σ E s f => by
  obtain ⟨hI, ht, hM⟩ := s.mu a _ hm
  obtain ⟨es, hH, r⟩ := A.moAt.mp hM
  obtain ⟨_, v, ev, rv⟩ := s.sl i _ hi
  rw [show v = .ref a from rv] at ev
  refine .inr ⟨a, A.ho es, hH, A.hmut es, fun od => ?_⟩
  have s2 := s.fz (od := od) (o := A.ho es) hH hm (A.hpl es) hl
  have rp : Rp K (upd w.I a (.frz od (A.ho es))) (A.fd kvs) (.ref a) := A.rfd.mpr ⟨a, od, es, rfl, upd_same, A.keep (.of_same (same_new hI)) r⟩
  have z := s2.set i (d := A.fd kvs) (v := .ref a) rp
  rw [set_same ev] at z
  exact k w0 (w.fz a (.frz od (A.ho es))) σ E z f
theorem sx_fzL (k : StX K lk L t ρ μ p) : StX K lk L (tFz t) ρ μ p := fun w0 w σ E s f => .inl (k w0 w σ E s f)
theorem st_fzL {p : Po} (k : StS K lk t ρ p) : StS K lk (tFz t) ρ p := fun w0 w σ E s f => .inl (k w0 w σ E s f)
/-! {k: v for .. in .. if ..}, held fast -/
theorem Dk.edc {tk tv : TE} {js vs : List Nat} {C : List D → Prop} (hi : ItS K lk wi ρ C) (Acc : List D → Nat → List (κ × D) → Prop) (h0 : ∀ xs, C xs → Acc xs 0 []) (hl : ∀ xs, C xs → xs.length ≤ 10000000) (hj : ∀ j ∈ js, j ∈ vs)
    (turn : ∀ (xs : List D) (i : Nat) (x : D) (kvs : List (κ × D)), C xs → xs[i]? = some x → Acc xs i kvs → ∃ ρ2 T, TgS K lk g js x (wipeS ρ vs) ρ2 ∧ EvT K lk tt ρ2 T ∧ (T false → Acc xs (i + 1) kvs) ∧ (T true → ∃ k, EvD K lk tk ρ2 (A.kd k) ∧ EvS K lk tv ρ2 (fun d => Acc xs (i + 1) (putD kvs k d))))
    (fin : ∀ xs kvs, C xs → Acc xs xs.length kvs → P (A.fd kvs)) : EvS K lk (eFz (tDcU wi g tt tk tv vs)) ρ P := fun w0 w σ s Q gq => ⟨A.kind, hi w0 w σ s _ fun J w1 xs l1 ok1 hC Y Dl hD => by
    have s1 := s.mono l1 ok1
    have tpD : w1.tp ≠ some Dl := not_tape ok1 hD
    have hDI : w1.I Dl = none := notI ok1 hD
    refine ⟨fun i m H' => m = xs.length - i ∧ i ≤ xs.length ∧ ∃ w' kvs es, w'.H = H' ∧ w1.le w' ∧ w'.Ok ∧ w'.I Dl = none ∧ w'.H Dl = some (A.ho es) ∧ A.rp K w'.I kvs es ∧ Acc xs i kvs ∧ es.length ≤ i,
      ⟨xs.length, by simp, Nat.zero_le _, w1.put Dl (A.ho []), [], [], by rw [A.empty]; rfl, Wd.le_put (.refl w1) hD, Wd.put_ok ok1 hDI tpD (A.hpl _), hDI, upd_same, A.nil _ _, h0 xs hC, Nat.le_refl _⟩, ?_⟩
    rintro i m H' ⟨rfl, hle, w', kvs, es, rfl, l', ok', hI', hH', r', acc, hes⟩
    by_cases hlt : i < xs.length
    · have hx : xs[i]? = some xs[i] := List.getElem?_eq_getElem hlt
      obtain ⟨ρ2, T, tg, ht, hf, he⟩ := turn xs i _ kvs hC hx acc
      refine .inr ⟨Y.go i w' ok' l'.I hlt, fun H2 => ∃ w2 zs ws, w2.H = H2 ∧ w1.le w2 ∧ w2.Ok ∧ w2.I Dl = none ∧ w2.H Dl = some (A.ho ws) ∧ A.rp K w2.I zs ws ∧ Acc xs (i + 1) zs ∧ ws.length ≤ i + 1,
        fun H2 ⟨w2, zs, ws, e2, q⟩ => ⟨xs.length - (i + 1), by omega, rfl, hlt, w2, zs, ws, e2, q⟩, fun v H2 y => ?_⟩
      obtain ⟨w2, rfl, l2, ok2, r2⟩ := Y.yld i w' v H2 ok' l'.I y _ hx
      have l12 := l'.trans l2
      have keepD : ∀ {wa : Wd}, w'.le wa → wa.I Dl = none ∧ wa.H Dl = some (A.ho es) := fun {wa} la => ⟨la.fr Dl hI' (by rw [hH']; exact fun z => nomatch z), la.H Dl _ hH' (by rw [l'.tp]; exact tpD)⟩
      have sw2 := (s1.mono l12 ok2).wipe vs
      refine tg w0 w2 _ v sw2 r2 _ fun σ3 st3 sb => ⟨wipe_same sb hj, ht w0 w2 σ3 (st3 w2 sw2 (Same.refl _)) _ fun b w3 l3 ok3 eb => ?_⟩
      have s3 := st3 w2 sw2 (Same.refl _)
      have l23 := l2.trans l3
      cases b with
      | false =>
        rw [if_neg (by decide)]
        exact ⟨w3, kvs, es, rfl, l'.trans l23, ok3, (keepD l23).1, (keepD l23).2, A.keep (.of_same l23.I) r', hf eb, Nat.le_succ_of_le hes⟩
      | true =>
        obtain ⟨k, hk, hv⟩ := he eb
        rw [if_pos rfl]
        refine hk w0 w3 σ3 (s3.mono l3 ok3) _ fun kv w4 d4 l4 ok4 r4 e4 => ?_
        rw [show d4 = _ from e4] at r4
        refine hv w0 w4 σ3 ((s3.mono l3 ok3).mono l4 ok4) _ fun vv w5 d l5 ok5 r5 ac => ?_
        have l25 := (l23.trans l4).trans l5
        obtain ⟨i5, h5⟩ := keepD l25
        have lt5 : es.length < sizeLine := Nat.lt_of_lt_of_le (Nat.lt_of_le_of_lt hes (Nat.lt_of_lt_of_le hlt (hl xs hC))) (by decide)
        refine ⟨_, A.dput ok5 h5 (r4.mono l5.I) lt5, w5.put Dl (A.ho (putK es k vv)), putD kvs k d, putK es k vv, rfl, Wd.le_put (l'.trans l25) hD, Wd.put_ok ok5 i5 (by rw [l25.tp, l'.tp]; exact tpD) (A.hpl _), i5, upd_same, A.put (A.keep (.of_same l25.I) r') r5, ac, ?_⟩
        have := length_putK es k vv
        omega
    · have e : i = xs.length := by omega
      subst e
      refine .inl ⟨Y.stop w' ok' l'.I, .inr ⟨Dl, A.ho es, rfl, hH', A.hmut es, fun od => ?_⟩⟩
      refine gq (.ref Dl) (w'.fz Dl (.frz od (A.ho es))) (A.fd kvs) (le_fz (l1.trans l') (l1.dom Dl hD) hI') (fz_ok ok' hI' hH' (A.hpl es) (by rw [l'.tp]; exact tpD)) ?_ (fin xs kvs hC acc)
      exact A.rfd.mpr ⟨Dl, od, es, rfl, upd_same, A.keep (.of_same (same_new hI')) r'⟩⟩
end
end RF

set_option linter.all false
set_option autoImplicit false
namespace RF
section matching
variable {κ τ : Type} [DecidableEq κ] [DecidableEq τ]
/-- a thing is given to a key -/
def updH (held : τ → Option κ) (t : τ) (k : κ) : τ → Option κ := fun x => if x = t then some k else held x
theorem updH_same (held : τ → Option κ) (t : τ) (k : κ) : updH held t k t = some k := if_pos rfl
theorem updH_ne {held : τ → Option κ} {t x : τ} {k : κ} (h : x ≠ t) : updH held t k x = held x := if_neg h
/-- a key got a thing, others going over to other ones, none of those that are avoided -/
inductive Aug (rows : κ → List τ) (held : τ → Option κ) : (τ → Prop) → κ → (τ → Option κ) → Prop
  | free {av : τ → Prop} {k : κ} {t : τ} : t ∈ rows k → ¬ av t → held t = none → Aug rows held av k (updH held t k)
  | step {av : τ → Prop} {k k' : κ} {t : τ} {h' : τ → Option κ} : t ∈ rows k → ¬ av t → held t = some k' → Aug rows held (fun x => av x ∨ x = t) k' h' → Aug rows held av k (updH h' t k)
def Closed (rows : κ → List τ) (held : τ → Option κ) (S : τ → Prop) : Prop := ∀ t, S t → ∃ k, held t = some k ∧ ∀ x ∈ rows k, S x
def Blocked (rows : κ → List τ) (held : τ → Option κ) (key : κ) : Prop := ∃ S, Closed rows held S ∧ ∀ x ∈ rows key, S x
structure TryFail (rows : κ → List τ) (held : τ → Option κ) (seen : τ → Prop) (key : κ) (seen' : τ → Prop) : Prop where
  up : ∀ t, seen t → seen' t
  all : ∀ x ∈ rows key, seen' x
  new : ∀ t, seen' t → ¬ seen t → ∃ k, held t = some k ∧ ∀ x ∈ rows k, seen' x
variable {rows : κ → List τ} {held held' : τ → Option κ} {av : τ → Prop} {key : κ} {S : τ → Prop}
theorem Aug.avoid (h : Aug rows held av key held') : ∀ t, av t → held' t = held t := by
  induction h with
  | free h1 h2 h3 => exact fun x hx => updH_ne fun e => h2 (by rw [← e]; exact hx)
  | step h1 h2 h3 h4 ih => exact fun x hx => (updH_ne fun e => h2 (by rw [← e]; exact hx)).trans (ih x (.inl hx))
theorem Aug.weak (h : Aug rows held av key held') : ∀ {av2 : τ → Prop}, (∀ t, av2 t → av t) → Aug rows held av2 key held' := by
  induction h with
  | free h1 h2 h3 => exact fun i => .free h1 (fun z => h2 (i _ z)) h3
  | step h1 h2 h3 h4 ih => exact fun i => .step h1 (fun z => h2 (i _ z)) h3 (ih fun x hx => hx.imp (i x) id)
theorem Aug.edges (h : Aug rows held av key held') (v : ∀ t k, held t = some k → t ∈ rows k) : ∀ t k, held' t = some k → t ∈ rows k := by
  induction h with
  | @free av k t h1 h2 h3 =>
    intro x k' e
    by_cases z : x = t
    · subst z; rw [updH_same] at e; cases e; exact h1
    · rw [updH_ne z] at e; exact v x k' e
  | @step av k k' t h' h1 h2 h3 h4 ih =>
    intro x k2 e
    by_cases z : x = t
    · subst z; rw [updH_same] at e; cases e; exact h1
    · rw [updH_ne z] at e; exact ih x k2 e
/-- whose things there are, outside what is avoided -/
theorem Aug.vals (h : Aug rows held av key held') : ∀ t x, ¬ av t → held' t = some x → x = key ∨ ∃ t0, ¬ av t0 ∧ held t0 = some x := by
  induction h with
  | @free av k t h1 h2 h3 =>
    intro y x hy e
    by_cases z : y = t
    · subst z; rw [updH_same] at e; cases e; exact .inl rfl
    · rw [updH_ne z] at e; exact .inr ⟨y, hy, e⟩
  | @step av k k' t h' h1 h2 h3 h4 ih =>
    intro y x hy e
    by_cases z : y = t
    · subst z; rw [updH_same] at e; cases e; exact .inl rfl
    · rw [updH_ne z] at e
      rcases ih y x (fun w => w.elim hy z) e with q | ⟨t0, n0, e0⟩
      · subst q; exact .inr ⟨t, h2, h3⟩
      · exact .inr ⟨t0, fun w => n0 (.inl w), e0⟩
theorem Aug.inj (h : Aug rows held av key held') (i : ∀ t t' k, held t = some k → held t' = some k → t = t') (n : ∀ t, ¬ av t → held t ≠ some key) : ∀ t t' k, ¬ av t → ¬ av t' → held' t = some k → held' t' = some k → t = t' := by
  induction h with
  | @free av k t h1 h2 h3 =>
    intro x y q hx hy ex ey
    by_cases zx : x = t
    · subst zx
      rw [updH_same] at ex
      cases ex
      by_cases zy : y = x
      · exact zy.symm
      · rw [updH_ne zy] at ey; exact absurd ey (n y hy)
    · rw [updH_ne zx] at ex
      by_cases zy : y = t
      · subst zy; rw [updH_same] at ey; cases ey; exact absurd ex (n x hx)
      · rw [updH_ne zy] at ey; exact i x y q ex ey
  | @step av k k' t h' h1 h2 h3 h4 ih =>
    intro x y q hx hy ex ey
    have n' : ∀ z, ¬ (av z ∨ z = t) → held z ≠ some k' := fun z hz e => hz (.inr (i z t k' e h3))
    have own : ∀ z, ¬ av z → z ≠ t → h' z = some k → False := fun z hz zt e => by
      rcases h4.vals z k (fun w => w.elim hz zt) e with w | ⟨t0, n0, e0⟩
      · subst w; exact n t h2 h3
      · exact n t0 (fun w => n0 (.inl w)) e0
    by_cases zx : x = t
    · subst zx
      rw [updH_same] at ex
      cases ex
      by_cases zy : y = x
      · exact zy.symm
      · rw [updH_ne zy] at ey; exact (own y hy zy ey).elim
    · rw [updH_ne zx] at ex
      by_cases zy : y = t
      · subst zy; rw [updH_same] at ey; cases ey; exact (own x hx zx ex).elim
      · rw [updH_ne zy] at ey
        exact ih n' x y q (fun w => w.elim hx zx) (fun w => w.elim hy zy) ex ey
theorem Aug.has (h : Aug rows held av key held') : ∃ t, ¬ av t ∧ held' t = some key := by
  cases h with
  | free h1 h2 h3 => exact ⟨_, h2, updH_same _ _ _⟩
  | step h1 h2 h3 h4 => exact ⟨_, h2, updH_same _ _ _⟩
theorem Aug.keep (h : Aug rows held av key held') : ∀ t x, ¬ av t → held t = some x → ∃ t', ¬ av t' ∧ held' t' = some x := by
  induction h with
  | @free av k t h1 h2 h3 =>
    intro y x hy e
    exact ⟨y, hy, by rw [updH_ne fun z => by rw [z, h3] at e; cases e]; exact e⟩
  | @step av k k' t h' h1 h2 h3 h4 ih =>
    intro y x hy e
    by_cases z : y = t
    · subst z
      rw [h3] at e
      cases e
      obtain ⟨t2, n2, e2⟩ := h4.has
      exact ⟨t2, fun w => n2 (.inl w), by rw [updH_ne fun w => n2 (.inr w)]; exact e2⟩
    · obtain ⟨t2, n2, e2⟩ := ih y x (fun w => w.elim hy z) e
      exact ⟨t2, fun w => n2 (.inl w), by rw [updH_ne fun w => n2 (.inr w)]; exact e2⟩
theorem Aug.dom (h : Aug rows held av key held') : ∀ t, held' t = none → held t = none := by
  induction h with
  | @free av k t h1 h2 h3 =>
    intro y e
    by_cases z : y = t
    · subst z; exact h3
    · rw [updH_ne z] at e; exact e
  | @step av k k' t h' h1 h2 h3 h4 ih =>
    intro y e
    by_cases z : y = t
    · subst z; rw [updH_same] at e; cases e
    · rw [updH_ne z] at e; exact ih y e
theorem Aug.closed (h : Aug rows held av key held') (c : Closed rows held S) : (∃ x ∈ rows key, ¬ S x) ∧ ∀ t, S t → held' t = held t := by
  induction h with
  | @free av k t h1 h2 h3 =>
    have nt : ¬ S t := fun s => by
      obtain ⟨k', e, _⟩ := c t s
      rw [h3] at e
      cases e
    exact ⟨⟨t, h1, nt⟩, fun x hx => updH_ne fun e => nt (by rw [← e]; exact hx)⟩
  | @step av k k' t h' h1 h2 h3 h4 ih =>
    have nt : ¬ S t := fun s => by
      obtain ⟨k2, e, all⟩ := c t s
      rw [h3] at e
      cases e
      obtain ⟨x, hx, n⟩ := ih.1
      exact n (all x hx)
    exact ⟨⟨t, h1, nt⟩, fun x hx => (updH_ne fun e => nt (by rw [← e]; exact hx)).trans (ih.2 x hx)⟩
theorem Closed.aug (c : Closed rows held S) (h : Aug rows held av key held') : Closed rows held' S := fun t s => by
  obtain ⟨k, e, all⟩ := c t s
  exact ⟨k, by rw [(h.closed c).2 t s]; exact e, all⟩
theorem Blocked.aug {u : κ} (b : Blocked rows held u) (h : Aug rows held av key held') : Blocked rows held' u := by
  obtain ⟨S, c, all⟩ := b
  exact ⟨S, c.aug h, all⟩
theorem TryFail.blocked {seen' : τ → Prop} (h : TryFail rows held (fun _ => False) key seen') : Blocked rows held key := ⟨seen', fun t s => h.new t s id, h.all⟩
/-- a matching of some keys, the others blocked -/
structure Matched (rows : κ → List τ) (held : τ → Option κ) (ks : List κ) : Prop where
  edge : ∀ t k, held t = some k → t ∈ rows k
  key : ∀ t k, held t = some k → k ∈ ks
  inj : ∀ t t' k, held t = some k → held t' = some k → t = t'
  rest : ∀ k ∈ ks, (∃ t, held t = some k) ∨ Blocked rows held k
theorem Matched.nil : Matched rows (fun _ : τ => (none : Option κ)) [] := ⟨(fun _ _ e => nomatch e), (fun _ _ e => nomatch e), (fun _ _ _ e => nomatch e), (fun _ h => nomatch h)⟩
theorem Matched.aug {ks : List κ} (m : Matched rows held ks) (hk : key ∉ ks) (h : Aug rows held (fun _ => False) key held') : Matched rows held' (ks ++ [key]) where
  edge := h.edges m.edge
  key := fun t k e => by
    rcases h.vals t k id e with q | ⟨t0, _, e0⟩
    · simp [q]
    · exact List.mem_append_left _ (m.key t0 k e0)
  inj := fun t t' k e e' => h.inj m.inj (fun t _ e => hk (m.key t key e)) t t' k id id e e'
  rest := fun k hk => by
    rcases List.mem_append.mp hk with z | z
    · rcases m.rest k z with ⟨t, e⟩ | b
      · obtain ⟨t', _, e'⟩ := h.keep t k id e
        exact .inl ⟨t', e'⟩
      · exact .inr (b.aug h)
    · have z : k = key := by simpa using z
      subst z
      obtain ⟨t, _, e⟩ := h.has
      exact .inl ⟨t, e⟩
theorem Matched.fail {ks : List κ} (m : Matched rows held ks) {seen' : τ → Prop} (h : TryFail rows held (fun _ => False) key seen') : Matched rows held (ks ++ [key]) where
  edge := m.edge
  key := fun t k e => List.mem_append_left _ (m.key t k e)
  inj := m.inj
  rest := fun k hk => by
    rcases List.mem_append.mp hk with z | z
    · exact m.rest k z
    · have z : k = key := by simpa using z
      subst z
      exact .inr h.blocked
/-! counting -/
theorem sub_len {α : Type} [DecidableEq α] : ∀ {xs ys : List α}, xs.Nodup → (∀ x ∈ xs, x ∈ ys) → xs.length ≤ ys.length
  | [], ys, _, _ => Nat.zero_le _
  | x :: xs, ys, n, h => by
    rw [List.nodup_cons] at n
    have hx := h x (by simp)
    have := sub_len (xs := xs) (ys := ys.erase x) n.2 fun y hy => by
      have hne : y ≠ x := fun e => n.1 (e ▸ hy)
      exact (List.mem_erase_of_ne hne).mpr (h y (by simp [hy]))
    rw [List.length_erase_of_mem hx] at this
    have hp : 0 < ys.length := List.length_pos_of_mem hx
    simp only [List.length_cons]
    omega
/-- no way to give each key a thing of its own where one is blocked -/
theorem Matched.hall {ks : List κ} (m : Matched rows held ks) {u : κ} (hu : ∀ t, held t ≠ some u) (b : Blocked rows held u) (huk : u ∈ ks) (f : κ → τ) (hf : ∀ k ∈ ks, f k ∈ rows k) (fi : ∀ k ∈ ks, ∀ k' ∈ ks, f k = f k' → k = k') : False := by
  obtain ⟨S, c, all⟩ := b
  exact (by
    -- keys: u and the holders of S; f maps them into S
    have key : ∀ (n : Nat) (L : List τ), L.Nodup → (∀ t ∈ L, S t) → L.length = n → ∃ L' : List τ, L'.Nodup ∧ (∀ t ∈ L', S t) ∧ L'.length = n + 1 := fun n L nd hL hn => by
      -- holders of L, and u: n + 1 keys, whose f are n + 1 things of S
      have hh : ∀ t ∈ L, ∃ k, held t = some k ∧ ∀ x ∈ rows k, S x := fun t ht => c t (hL t ht)
      have mk : ∀ (L : List τ), L.Nodup → (∀ t ∈ L, S t) → ∃ hs : List κ, hs.length = L.length ∧ hs.Nodup ∧ ∀ k ∈ hs, ∃ t ∈ L, held t = some k ∧ ∀ x ∈ rows k, S x := fun L => by
        induction L with
        | nil => exact fun _ _ => ⟨[], rfl, .nil, (fun _ h => nomatch h)⟩
        | cons t L ih =>
          intro nd hL
          rw [List.nodup_cons] at nd
          obtain ⟨hs, l1, n1, p1⟩ := ih nd.2 fun x hx => hL x (by simp [hx])
          obtain ⟨k, e, al⟩ := c t (hL t (by simp))
          refine ⟨k :: hs, by simp [l1], ?_, fun k' hk' => ?_⟩
          · rw [List.nodup_cons]
            refine ⟨fun hk => ?_, n1⟩
            obtain ⟨t2, ht2, e2, _⟩ := p1 k hk
            exact nd.1 (m.inj t t2 k e e2 ▸ ht2)
          · rcases List.mem_cons.mp hk' with z | z
            · subst z; exact ⟨t, by simp, e, al⟩
            · obtain ⟨t2, ht2, r⟩ := p1 k' z
              exact ⟨t2, by simp [ht2], r⟩
      obtain ⟨hs, l1, n1, p1⟩ := mk L nd hL
      refine ⟨(u :: hs).map f, ?_, fun t ht => ?_, by simp [l1, hn]⟩
      · have hin : ∀ k ∈ u :: hs, k ∈ ks := fun k hk => by
          rcases List.mem_cons.mp hk with z | z
          · subst z; exact huk
          · obtain ⟨t, _, e, _⟩ := p1 k z
            exact m.key t k e
        have nd2 : (u :: hs).Nodup := by
          rw [List.nodup_cons]
          refine ⟨fun h => ?_, n1⟩
          obtain ⟨t, _, e, _⟩ := p1 u h
          exact hu t e
        have go : ∀ l : List κ, l.Nodup → (∀ k ∈ l, k ∈ ks) → (l.map f).Nodup := fun l => by
          induction l with
          | nil => exact fun _ _ => .nil
          | cons a l ih =>
            intro nl hl
            rw [List.nodup_cons] at nl
            rw [List.map_cons, List.nodup_cons]
            refine ⟨fun h => ?_, ih nl.2 fun k hk => hl k (by simp [hk])⟩
            obtain ⟨b, hb, e⟩ := List.mem_map.mp h
            exact nl.1 (fi b (hl b (by simp [hb])) a (hl a (by simp)) e ▸ hb)
        exact go _ nd2 hin
      · obtain ⟨k, hk, rfl⟩ := List.mem_map.mp ht
        rcases List.mem_cons.mp hk with z | z
        · subst z; exact all _ (hf _ huk)
        · obtain ⟨t, _, e, al⟩ := p1 k z
          exact al _ (hf k (m.key t k e))
    -- ever longer lists of things of S, but their holders are keys of ks
    have long : ∀ n : Nat, ∃ L : List τ, L.Nodup ∧ (∀ t ∈ L, S t) ∧ L.length = n := fun n => by
      induction n with
      | zero => exact ⟨[], .nil, (fun _ h => nomatch h), rfl⟩
      | succ n ih =>
        obtain ⟨L, nd, hL, e⟩ := ih
        exact key n L nd hL e
    obtain ⟨L, nd, hL, e⟩ := long (ks.length + 1)
    -- holders: distinct keys of ks
    have : ∀ (L : List τ), L.Nodup → (∀ t ∈ L, S t) → ∃ hs : List κ, hs.length = L.length ∧ hs.Nodup ∧ ∀ k ∈ hs, ∃ t ∈ L, held t = some k := fun L => by
      induction L with
      | nil => exact fun _ _ => ⟨[], rfl, .nil, (fun _ h => nomatch h)⟩
      | cons t L ih =>
        intro nd hL
        rw [List.nodup_cons] at nd
        obtain ⟨hs, l1, n1, p1⟩ := ih nd.2 fun x hx => hL x (by simp [hx])
        obtain ⟨k, e, al⟩ := c t (hL t (by simp))
        refine ⟨k :: hs, by simp [l1], ?_, fun k' hk' => ?_⟩
        · rw [List.nodup_cons]
          refine ⟨fun hk => ?_, n1⟩
          obtain ⟨t2, ht2, e2⟩ := p1 k hk
          exact nd.1 (m.inj t t2 k e e2 ▸ ht2)
        · rcases List.mem_cons.mp hk' with z | z
          · subst z; exact ⟨t, by simp, e⟩
          · obtain ⟨t2, ht2, r⟩ := p1 k' z
            exact ⟨t2, by simp [ht2], r⟩
    obtain ⟨hs, l1, n1, p1⟩ := this L nd hL
    have := sub_len n1 (ys := ks) fun k hk => by
      obtain ⟨t, _, e⟩ := p1 k hk
      exact m.key t k e
    omega)
end matching
end RF

set_option linter.all false
set_option autoImplicit false
namespace RF
/-! ### two matchings joined -/
section md
variable {B : Type}
theorem countP_succ {α : Type} {p q : α → Bool} {a : α} : ∀ {l : List α}, l.Nodup → a ∈ l → p a = false → q a = true → (∀ x ∈ l, x ≠ a → q x = p x) → l.countP q = l.countP p + 1
  | [], _, h, _, _, _ => nomatch h
  | x :: l, n, h, hp, hq, e => by
    rw [List.nodup_cons] at n
    rcases List.mem_cons.mp h with z | z
    · subst z
      rw [List.countP_cons, List.countP_cons, hp, hq]
      have : l.countP q = l.countP p := List.countP_congr fun y hy => by rw [e y (by simp [hy]) fun w => n.1 (w ▸ hy)]
      rw [this]
      rfl
    · have ih := countP_succ n.2 z hp hq fun y hy => e y (by simp [hy])
      rw [List.countP_cons, List.countP_cons, e x (by simp) fun w => n.1 (w ▸ z), ih]
      omega
open Classical in
/-- one covers all places, one covers all that is wanted: one covers both -/
theorem md {T : Nat} {E : B → Nat → Prop} {W : B → Prop} (M2 : B → Nat) (h2 : ∀ w, W w → M2 w < T ∧ E w (M2 w)) (i2 : ∀ w w', W w → W w' → M2 w = M2 w' → w = w') :
    ∀ (n : Nat) (M : Nat → B), (∀ a, a < T → E (M a) a) → (∀ a a', a < T → a' < T → M a = M a' → a = a') → T - (List.range T).countP (fun a => decide (W (M a) ∧ M2 (M a) = a)) ≤ n →
      ∃ M' : Nat → B, (∀ a, a < T → E (M' a) a) ∧ (∀ a a', a < T → a' < T → M' a = M' a' → a = a') ∧ ∀ w, W w → ∃ a, a < T ∧ M' a = w := by
  intro n
  induction n with
  | zero =>
    intro M hM iM hn
    refine ⟨M, hM, iM, fun w hw => ?_⟩
    have hle : (List.range T).countP (fun a => decide (W (M a) ∧ M2 (M a) = a)) ≤ T := by
      have := List.countP_le_length (p := fun a => decide (W (M a) ∧ M2 (M a) = a)) (l := List.range T)
      rw [List.length_range] at this
      exact this
    have he : (List.range T).countP (fun a => decide (W (M a) ∧ M2 (M a) = a)) = (List.range T).length := by rw [List.length_range]; omega
    rw [List.countP_eq_length] at he
    obtain ⟨ht, _⟩ := h2 w hw
    have := of_decide_eq_true (he (M2 w) (List.mem_range.mpr ht))
    exact ⟨M2 w, ht, i2 _ _ this.1 hw this.2⟩
  | succ n ih =>
    intro M hM iM hn
    by_cases hc : ∀ w, W w → ∃ a, a < T ∧ M a = w
    · exact ⟨M, hM, iM, hc⟩
    · obtain ⟨w, hw⟩ := Classical.not_forall.mp hc
      obtain ⟨hw, hu⟩ := Classical.not_imp.mp hw
      have hu : ∀ a, a < T → M a ≠ w := fun a ha e => hu ⟨a, ha, e⟩
      obtain ⟨ht, he⟩ := h2 w hw
      have hp : decide (W (M (M2 w)) ∧ M2 (M (M2 w)) = M2 w) = false := decide_eq_false fun ⟨q1, q2⟩ => hu _ ht (i2 _ _ q1 hw q2)
      have cnt : (List.range T).countP (fun a => decide (W ((fun a => if a = M2 w then w else M a) a) ∧ M2 ((fun a => if a = M2 w then w else M a) a) = a)) = (List.range T).countP (fun a => decide (W (M a) ∧ M2 (M a) = a)) + 1 := by
        refine countP_succ (a := M2 w) List.nodup_range (List.mem_range.mpr ht) hp ?_ fun x _ hx => ?_
        · simp [hw]
        · simp [hx]
      refine ih (fun a => if a = M2 w then w else M a) (fun a ha => ?_) (fun a a' ha ha' e => ?_) (by rw [cnt]; omega)
      · by_cases z : a = M2 w
        · simp only [z, if_true]; exact he
        · simp only [z, if_false]; exact hM a ha
      · by_cases z : a = M2 w
        · by_cases z' : a' = M2 w
          · rw [z, z']
          · simp only [z, z', if_true, if_false] at e
            exact absurd e.symm (hu a' ha')
        · by_cases z' : a' = M2 w
          · simp only [z, z', if_true, if_false] at e
            exact absurd e (hu a ha)
          · simp only [z, z', if_false] at e
            exact iM a a' ha ha' e
end md
/-! ### ways and matchings -/
section ways
variable {N : Type} [DecidableEq N] [Inhabited N]
def paidN (ws : List N) (n : N) (k : Nat) : Nat := (ws.take k).count n
structure DueOk (T : Nat) (ns : List N) (due : N → Nat → Rat) : Prop where
  zero : ∀ n, due n 0 = 0
  mono : ∀ n i j, i ≤ j → j ≤ T → due n i ≤ due n j
  top : ∀ n k, k ≤ T → due n k ≤ (k : Rat)
structure WayOn (T : Nat) (can : Nat → List N) (ps ws : List N) : Prop where
  len : ws.length = T
  can : ∀ (i : Nat) (n : N), ws[i]? = some n → n ∈ can i
  pre : ∀ i, i < ps.length → ws[i]? = ps[i]?
def Within (T : Nat) (ns : List N) (due : N → Nat → Rat) (ws : List N) (b : Rat) : Prop := ∀ n ∈ ns, ∀ k, k ≤ T → due n k - (paidN ws n k : Rat) ≤ b ∧ (paidN ws n k : Rat) - due n k ≤ b
def OpenAt (can : Nat → List N) (ps : List N) (p : N × Nat) (at' : Nat) : Prop := p.1 ∈ can at' ∧ (ps.length ≤ at' ∨ ps[at']? = some p.1 ∧ (ps.take (at' + 1)).count p.1 = p.2)
def HeldAt (due : N → Nat → Rat) (b : Rat) (p : N × Nat) (at' : Nat) : Prop := due p.1 at' - ((p.2 - 1 : Nat) : Rat) ≤ b ∧ (p.2 : Rat) - due p.1 (at' + 1) ≤ b
def IsPay (T : Nat) (ns : List N) (p : N × Nat) : Prop := p.1 ∈ ns ∧ 1 ≤ p.2 ∧ p.2 ≤ T
def WantAt (T : Nat) (ns : List N) (due : N → Nat → Rat) (b : Rat) (p : N × Nat) : Prop := IsPay T ns p ∧ b < due p.1 T - ((p.2 - 1 : Nat) : Rat)
def EdgeAt (T : Nat) (ns : List N) (can : Nat → List N) (due : N → Nat → Rat) (ps : List N) (b : Rat) (p : N × Nat) (a : Nat) : Prop := IsPay T ns p ∧ OpenAt can ps p a ∧ HeldAt due b p a
variable {T : Nat} {ns : List N} {can : Nat → List N} {due : N → Nat → Rat} {ps ws : List N} {b : Rat}
theorem natR {i j : Nat} (h : i ≤ j) : (i : Rat) ≤ (j : Rat) := Rat.natCast_le_natCast.mpr h
theorem take_map_count (f : Nat → N) (n : N) (k : Nat) (h : k ≤ T) : (((List.range T).map f).take k).count n = ((List.range k).filter fun a => decide (f a = n)).length := by
  rw [← List.map_take, List.take_range, Nat.min_eq_left h, List.count_eq_countP, List.countP_map, List.countP_eq_length_filter]
  congr 1
theorem kept_way (d : DueOk T ns due) (hb : 0 ≤ b) (hc : ∀ a, a < T → ∀ n ∈ can a, n ∈ ns) (M1 : Nat → N × Nat) (h1 : ∀ a, a < T → EdgeAt T ns can due ps b (M1 a) a) (i1 : ∀ a a', a < T → a' < T → M1 a = M1 a' → a = a')
    (M2 : N × Nat → Nat) (h2 : ∀ w, WantAt T ns due b w → M2 w < T ∧ EdgeAt T ns can due ps b w (M2 w)) (i2 : ∀ w w', WantAt T ns due b w → WantAt T ns due b w' → M2 w = M2 w' → w = w') (hp : ps.length ≤ T) :
    ∃ ws, WayOn T can ps ws ∧ Within T ns due ws b := by
  obtain ⟨M, hM, iM, cov⟩ := md M2 h2 i2 _ M1 h1 i1 (Nat.le_refl _)
  refine ⟨(List.range T).map fun a => (M a).1, ⟨by simp, fun i n e => ?_, fun i hi => ?_⟩, fun n hn k hk => ?_⟩
  · have hi : i < T := by
      have := (List.getElem?_eq_some_iff.mp e).1
      simpa using this
    rw [List.getElem?_map, List.getElem?_range hi] at e
    cases e
    exact (hM i hi).2.1.1
  · have hT : i < T := by omega
    rw [List.getElem?_map, List.getElem?_range hT]
    obtain ⟨_, ⟨_, q⟩, _⟩ := hM i hT
    rcases q with q | q
    · omega
    · exact q.1.symm
  · have ec : paidN ((List.range T).map fun a => (M a).1) n k = ((List.range k).filter fun a => decide ((M a).1 = n)).length := take_map_count _ n k hk
    rw [ec]
    generalize hL : ((List.range k).filter fun a => decide ((M a).1 = n)) = L
    have memL : ∀ a, a ∈ L ↔ a < k ∧ (M a).1 = n := fun a => by rw [← hL, List.mem_filter, List.mem_range, decide_eq_true_iff]
    have ndL : L.Nodup := by rw [← hL]; exact List.nodup_range.filter _
    constructor
    · -- due not much above what was paid
      apply Classical.byContradiction
      intro hcon
      have hcon : b < due n k - (L.length : Rat) := Rat.not_le.mp hcon
      have hlt : L.length + 1 ≤ T := by
        have hl : L.length ≤ k := by rw [← hL]; have := List.length_filter_le (fun a => decide ((M a).1 = n)) (List.range k); simpa using this
        by_cases z : L.length < T
        · omega
        · have e : L.length = T := by omega
          have := d.top n k hk
          have := natR hk
          rw [e] at hcon
          exfalso
          grind
      -- the payments 1 .. |L| + 1 are wanted, and stand at rounds below k
      have wt : ∀ j, j < L.length + 1 → WantAt T ns due b (n, j + 1) := fun j hj => by
        refine ⟨⟨hn, by simp, by simp; omega⟩, ?_⟩
        have := d.mono n k T hk (Nat.le_refl _)
        have := natR (show j ≤ L.length by omega)
        simp only [Nat.add_sub_cancel]
        grind
      have pl : ∀ j, j < L.length + 1 → ∃ a, a ∈ L ∧ M a = (n, j + 1) := fun j hj => by
        obtain ⟨a, ha, e⟩ := cov _ (wt j hj)
        refine ⟨a, (memL a).mpr ⟨?_, by rw [e]⟩, e⟩
        apply Classical.byContradiction
        intro z
        have := (hM a ha).2.2.1
        rw [e] at this
        simp only [Nat.add_sub_cancel] at this
        have q := d.mono n k a (by omega) (by omega)
        have := natR (show j ≤ L.length by omega)
        grind
      obtain ⟨g, hg⟩ := Classical.axiomOfChoice (fun j : Fin (L.length + 1) => pl j.1 j.2)
      have nd : ((List.finRange (L.length + 1)).map g).Nodup := by
        rw [List.nodup_iff_pairwise_ne, List.pairwise_map]
        refine List.Pairwise.imp ?_ (List.nodup_iff_pairwise_ne.mp (List.nodup_finRange (L.length + 1)))
        intro x y hxy e
        have ex := (hg x).2
        rw [e, (hg y).2] at ex
        apply hxy
        apply Fin.ext
        have := congrArg Prod.snd ex
        simp at this
        omega
      have := sub_len nd (ys := L) fun a ha => by
        obtain ⟨j, _, rfl⟩ := List.mem_map.mp ha
        exact (hg j).1
      simp at this
      omega
    · -- what was paid not much above the due
      by_cases z : L.length = 0
      · rw [z]
        have := d.mono n 0 k (Nat.zero_le _) hk
        have := d.zero n
        have : ((0 : Nat) : Rat) = 0 := rfl
        grind
      · -- some payment in L has a number not below |L|
        have : ∃ a ∈ L, L.length ≤ (M a).2 := by
          apply Classical.byContradiction
          intro q
          have q : ∀ a ∈ L, (M a).2 < L.length := fun a ha => by
            apply Classical.byContradiction
            intro w
            exact q ⟨a, ha, by omega⟩
          have nd : (L.map fun a => (M a).2 - 1).Nodup := by
            rw [List.nodup_iff_pairwise_ne, List.pairwise_map]
            refine List.Pairwise.imp_of_mem ?_ (List.nodup_iff_pairwise_ne.mp ndL)
            intro x y hx hy hxy e
            obtain ⟨kx, nx⟩ := (memL x).mp hx
            obtain ⟨ky, ny⟩ := (memL y).mp hy
            have p1 := (hM x (by omega)).1.2.1
            have p2 := (hM y (by omega)).1.2.1
            exact hxy (iM x y (by omega) (by omega) (Prod.ext (nx.trans ny.symm) (by omega)))
          have := sub_len nd (ys := List.range (L.length - 1)) fun a ha => by
            obtain ⟨j, hj, rfl⟩ := List.mem_map.mp ha
            have := q j hj
            obtain ⟨kj, _⟩ := (memL j).mp hj
            have p1 := (hM j (by omega)).1.2.1
            exact List.mem_range.mpr (by omega)
          simp at this
          omega
        obtain ⟨a, ha, hl⟩ := this
        obtain ⟨ak, an⟩ := (memL a).mp ha
        have h2 := (hM a (by omega)).2.2.2
        rw [an] at h2
        have := d.mono n (a + 1) k (by omega) hk
        have := natR hl
        grind
/-! from a way to matchings -/
theorem count_take_succ {l : List N} {i : Nat} {n m : N} (h : l[i]? = some m) : (l.take (i + 1)).count n = (l.take i).count n + if m = n then 1 else 0 := by
  have e : l.take (i + 1) = l.take i ++ [m] := by rw [List.take_add_one, h]; rfl
  rw [e, List.count_append, List.count_singleton]
  by_cases z : m = n
  · subst z; simp
  · simp [z]
theorem count_take_mono {l : List N} {n : N} {i j : Nat} (h : i ≤ j) : (l.take i).count n ≤ (l.take j).count n := by
  have e : l.take i = (l.take j).take i := by rw [List.take_take, Nat.min_eq_left h]
  rw [e]
  exact (List.take_sublist _ _).count_le n
theorem kth {l : List N} {n : N} : ∀ {k i : Nat}, 1 ≤ k → k ≤ (l.take i).count n → ∃ a, a < i ∧ l[a]? = some n ∧ (l.take (a + 1)).count n = k
  | k, 0, h1, h2 => by simp at h2; omega
  | k, i + 1, h1, h2 => by
    by_cases z : k ≤ (l.take i).count n
    · obtain ⟨a, ha, r⟩ := kth h1 z
      exact ⟨a, by omega, r⟩
    · cases e : l[i]? with
      | none =>
        have : l.take (i + 1) = l.take i := by rw [List.take_add_one, e]; simp
        rw [this] at h2
        omega
      | some m =>
        have q := count_take_succ (n := n) e
        by_cases w : m = n
        · subst w
          rw [if_pos rfl] at q
          exact ⟨i, by omega, e, by omega⟩
        · rw [if_neg w] at q; omega
theorem way_pre (h : WayOn T can ps ws) (hp : ps.length ≤ T) : ps = ws.take ps.length := by
  refine List.ext_getElem? fun i => ?_
  rw [List.getElem?_take]
  by_cases z : i < ps.length
  · rw [if_pos z]; exact (h.pre i z).symm
  · rw [if_neg z]; exact List.getElem?_eq_none (by omega)
theorem way_kept (d : DueOk T ns due) (hc : ∀ a, a < T → ∀ n ∈ can a, n ∈ ns) (hp : ps.length ≤ T) (w : WayOn T can ps ws) (hw : Within T ns due ws b) :
    (∃ M1 : Nat → N × Nat, (∀ a, a < T → EdgeAt T ns can due ps b (M1 a) a) ∧ ∀ a a', a < T → a' < T → M1 a = M1 a' → a = a') ∧
    ∃ M2 : N × Nat → Nat, (∀ w, WantAt T ns due b w → M2 w < T ∧ EdgeAt T ns can due ps b w (M2 w)) ∧ ∀ w w', WantAt T ns due b w → WantAt T ns due b w' → M2 w = M2 w' → w = w' := by
  -- the k-th payment of n at a: an edge
  have edge : ∀ (a : Nat) (n : N), a < T → ws[a]? = some n → EdgeAt T ns can due ps b (n, (ws.take (a + 1)).count n) a := fun a n ha e => by
    have ca := w.can a n e
    have hn := hc a ha n ca
    have q := count_take_succ (n := n) e
    rw [if_pos rfl] at q
    have hl : (ws.take (a + 1)).count n ≤ a + 1 := by
      have h1 : (ws.take (a + 1)).count n ≤ (ws.take (a + 1)).length := List.count_le_length
      rw [List.length_take] at h1
      omega
    refine ⟨⟨hn, by simp only; omega, by simp only; omega⟩, ⟨ca, ?_⟩, ?_, ?_⟩
    · by_cases z : ps.length ≤ a
      · exact .inl z
      · refine .inr ⟨by rw [← w.pre a (by omega)]; exact e, ?_⟩
        have e2 : ps.take (a + 1) = ws.take (a + 1) := by
          rw [way_pre w hp, List.take_take, Nat.min_eq_left (by omega)]
        show (ps.take (a + 1)).count n = (ws.take (a + 1)).count n
        rw [e2]
    · have := (hw n hn a (by omega)).1
      unfold paidN at this
      simp only [q, Nat.add_sub_cancel]
      exact this
    · have := (hw n hn (a + 1) (by omega)).2
      unfold paidN at this
      exact this
  have get : ∀ a, a < T → ∃ n, ws[a]? = some n := fun a ha => ⟨_, List.getElem?_eq_getElem (by rw [w.len]; exact ha)⟩
  refine ⟨⟨fun a => ((ws[a]?).getD default, (ws.take (a + 1)).count ((ws[a]?).getD default)), fun a ha => ?_, fun a a' ha ha' e => ?_⟩, ?_⟩
  · obtain ⟨n, e⟩ := get a ha
    simp only [e, Option.getD_some]
    exact edge a n ha e
  · obtain ⟨n, en⟩ := get a ha
    obtain ⟨n', en'⟩ := get a' ha'
    simp only [en, en', Option.getD_some, Prod.mk.injEq] at e
    obtain ⟨rfl, e⟩ := e
    apply Classical.byContradiction
    intro z
    have q := count_take_succ (n := n) en
    have q' := count_take_succ (n := n) en'
    rw [if_pos rfl] at q q'
    rcases Nat.lt_or_gt_of_ne z with z | z
    · have := count_take_mono (l := ws) (n := n) (show a + 1 ≤ a' by omega)
      omega
    · have := count_take_mono (l := ws) (n := n) (show a' + 1 ≤ a by omega)
      omega
  · have ex : ∀ p : N × Nat, ∃ a, WantAt T ns due b p → a < T ∧ ws[a]? = some p.1 ∧ (ws.take (a + 1)).count p.1 = p.2 := fun p => by
      by_cases hp : WantAt T ns due b p
      · obtain ⟨⟨h1, h2, h3⟩, h4⟩ := hp
        have hcount : p.2 ≤ (ws.take T).count p.1 := by
          apply Classical.byContradiction
          intro z
          have := (hw p.1 h1 T (Nat.le_refl _)).1
          unfold paidN at this
          have := natR (show (ws.take T).count p.1 ≤ p.2 - 1 by omega)
          grind
        obtain ⟨a, ha, e, c⟩ := kth h2 hcount
        exact ⟨a, fun _ => ⟨ha, e, c⟩⟩
      · exact ⟨0, fun z => absurd z hp⟩
    obtain ⟨g, hg⟩ := Classical.axiomOfChoice ex
    refine ⟨g, fun p hp => ?_, fun p p' hp hp' e => ?_⟩
    · obtain ⟨h1, h2, h3⟩ := hg p hp
      refine ⟨h1, ?_⟩
      have := edge _ _ h1 h2
      rw [h3] at this
      exact this
    · obtain ⟨h1, h2, h3⟩ := hg p hp
      obtain ⟨h1', h2', h3'⟩ := hg p' hp'
      rw [e] at h2 h3
      rw [h2] at h2'
      have e1 : p.1 = p'.1 := Option.some.inj h2'
      refine Prod.ext e1 ?_
      rw [← h3, ← h3', e1]
end ways
end RF

set_option Elab.async false
set_option linter.all false
set_option maxRecDepth 100000
set_option maxHeartbeats 4000000
set_option autoImplicit false
namespace RF
open PySem L2
section
variable {K : PySem.W.Frag} {lk : Bool} {w0 w w' w1 : Wd} {μ μ' : Mu} {L L' : Addr → Prop} {σ σ' : St} {ρ ρ' : List Sl} {te ta tb : TE} {tt tu : TT} {t u : TS} {p : PoX} {P : D → Prop} {X : D → Mu → Prop} {d : D} {g : TG} {wi : TI}
theorem ax_nil : AX K lk L tNil ρ μ (fun as μ' => as = [] ∧ μ' = μ) := ax ea_nil
theorem ax_cons {tr : TA} {C : List Ar → Mu → Prop} (h : EX K lk L te ρ μ X) (hr : ∀ d μ1, X d μ1 → AX K lk L tr ρ μ1 (fun as μ2 => C (.d d :: as) μ2)) : AX K lk L (tCons te tr) ρ μ C := fun w0 w σ s Q g =>
  h w0 w σ s _ fun v w1 d μ1 s1 r1 c => hr d μ1 c (w0.up w1) w1 σ s1.rebase _ fun vs w2 as μ2 s2 r2 c2 => g (v :: vs) w2 (.d d :: as) μ2 (s2.back (up_lex s1.le s1.ok)) ⟨v, vs, rfl, r1.mono s2.le.I, r2⟩ c2
theorem AX.imp {ta : TA} {C C' : List Ar → Mu → Prop} (h : AX K lk L ta ρ μ C) (i : ∀ as μ', C as μ' → C' as μ') : AX K lk L ta ρ μ C' := fun w0 w σ s Q g => h w0 w σ s Q fun vs w' as μ' s' r q => g vs w' as μ' s' r (i as μ' q)
theorem sx_retqD {u : TS} (h : EvD K lk te ρ d) (k : p.rt d μ) : StX K lk L (tSeq (tRet te) u) ρ μ p := sx_retq (ex h) fun x μ' ⟨e, m⟩ => by rw [e, m]; exact k
theorem sx_retD (h : EvD K lk te ρ d) (k : p.rt d μ) : StX K lk L (tRet te) ρ μ p := sx_ret (ex h) fun x μ' ⟨e, m⟩ => by rw [e, m]; exact k
end
section
variable {κ : Type} [DecidableEq κ] (A : Dk κ) {kvs : List (κ × D)} {k : κ}
variable {K : PySem.W.Frag} {lk : Bool} {μ μ' : Mu} {L : Addr → Prop} {ρ ρ' : List Sl} {te ta tb to : TE} {tt tu : TT} {t u : TS} {p : PoX} {d : D}
abbrev TXD (K : PySem.W.Frag) (lk : Bool) (L : Addr → Prop) (tt : TT) (ρ : List Sl) (μ : Mu) (b : Bool) : Prop := TX K lk L tt ρ μ (fun x μ' => x = b ∧ μ' = μ)
theorem sx_ifD {b : Bool} (h : TXD K lk L tt ρ μ b) (h1 : b = true → StX K lk L t ρ μ p) (h2 : b = false → StX K lk L u ρ μ p) : StX K lk L (tIfS tt t u) ρ μ p := sx_if h (fun μ' ⟨e, m⟩ => by rw [m]; exact h1 e.symm) fun μ' ⟨e, m⟩ => by rw [m]; exact h2 e.symm
theorem Dk.xputD {a : Addr} (h : EvD K lk te ρ d) (ho : EvD K lk to ρ (.mref a)) (hk : EvD K lk tb ρ (A.kd k)) (hm : μ a = some (A.mo kvs)) (hl : kvs.length < 10000000) (q : p.nx ρ (μ.put a (A.mo (putD kvs k d)))) : StX K lk L (sPutU to tb te) ρ μ p :=
  A.xput (ex h) ho hk fun d' μ' ⟨e, m⟩ => ⟨kvs, by rw [m]; exact hm, hl, by rw [m, e]; exact q⟩
theorem Dk.xputq {a : Addr} (h : EvD K lk te ρ d) (ho : EvD K lk to ρ (.mref a)) (hk : EvD K lk tb ρ (A.kd k)) (hm : μ a = some (A.mo kvs)) (hl : kvs.length < 10000000) (q : StX K lk L u ρ (μ.put a (A.mo (putD kvs k d))) p) : StX K lk L (tSeq (sPutU to tb te) u) ρ μ p :=
  sx_seq (fun ρ' μ' => ρ' = ρ ∧ μ' = μ.put a (A.mo (putD kvs k d))) (A.xputD h ho hk hm hl ⟨rfl, rfl⟩) fun ρ' μ' ⟨e, m⟩ => by rw [e, m]; exact q
theorem ax_consD {tr : TA} {C : List Ar → Mu → Prop} (h : EvD K lk te ρ d) (hr : AX K lk L tr ρ μ (fun as μ2 => C (.d d :: as) μ2)) : AX K lk L (tCons te tr) ρ μ C := ax_cons (ex h) fun d' μ' ⟨e, m⟩ => by rw [e, m]; exact hr
theorem ax_consX {tr : TA} {C : List Ar → Mu → Prop} (h : EX K lk L te ρ μ (fun x μ' => x = d ∧ μ' = μ)) (hr : AX K lk L tr ρ μ (fun as μ2 => C (.d d :: as) μ2)) : AX K lk L (tCons te tr) ρ μ C := ax_cons h fun d' μ' ⟨e, m⟩ => by rw [e, m]; exact hr
theorem ax_nil' {C : List Ar → Mu → Prop} (h : C [] μ) : AX K lk L tNil ρ μ C := AX.imp ax_nil fun as μ' ⟨e, m⟩ => by rw [e, m]; exact h
end
/-! ### dicts of keys: as plain lists -/
section
variable {κ τ α β : Type} [DecidableEq κ] [DecidableEq τ]
theorem getD'_mapv (f : α → β) (k : κ) : ∀ kvs : List (κ × α), getD' (kvs.map fun p => (p.1, f p.2)) k = (getD' kvs k).map f
  | [] => rfl
  | (j, v) :: r => by
    rw [List.map_cons, getD'_cons, getD'_cons]
    by_cases e : j = k
    · rw [if_pos e, if_pos e]; rfl
    · rw [if_neg e, if_neg e]; exact getD'_mapv f k r
theorem putD_mapv (f : α → β) (kvs : List (κ × α)) (k : κ) (v : α) : putD (kvs.map fun p => (p.1, f p.2)) k (f v) = (putD kvs k v).map fun p => (p.1, f p.2) := by
  unfold putD
  have e : (kvs.map fun p => (p.1, f p.2)).any (fun kv => decide (kv.1 = k)) = kvs.any fun kv => decide (kv.1 = k) := by
    rw [List.any_map]
    rfl
  rw [e]
  split
  · rw [List.map_map, List.map_map]
    refine List.map_congr_left fun p _ => ?_
    show (if p.1 = k then (p.1, f v) else (p.1, f p.2)) = _
    simp only [Function.comp]
    split <;> rfl
  · rw [List.map_append]; rfl
theorem getD'_none_iff {kvs : List (κ × α)} {k : κ} : getD' kvs k = none ↔ k ∉ kvs.map (·.1) := by
  induction kvs with
  | nil => simp [getD'_nil]
  | cons p r ih =>
    rw [getD'_cons, List.map_cons, List.mem_cons]
    by_cases e : p.1 = k
    · rw [if_pos e]; simp [e]
    · rw [if_neg e, ih]
      constructor
      · rintro h (z | z)
        · exact e z.symm
        · exact h z
      · exact fun h z => h (.inr z)
theorem getD'_mem {kvs : List (κ × α)} {k : κ} {v : α} (h : getD' kvs k = some v) : (k, v) ∈ kvs := by
  induction kvs with
  | nil => cases h
  | cons p r ih =>
    rw [getD'_cons] at h
    by_cases e : p.1 = k
    · rw [if_pos e] at h
      cases h
      rw [← e]
      exact List.mem_cons_self
    · rw [if_neg e] at h
      exact List.mem_cons_of_mem _ (ih h)
theorem getD'_of_mem {kvs : List (κ × α)} {k : κ} {v : α} (hn : (kvs.map (·.1)).Nodup) (h : (k, v) ∈ kvs) : getD' kvs k = some v := by
  induction kvs with
  | nil => cases h
  | cons p r ih =>
    rw [List.map_cons, List.nodup_cons] at hn
    rw [getD'_cons]
    rcases List.mem_cons.mp h with e | e
    · rw [← e]; rw [if_pos rfl]
    · rw [if_neg fun z => hn.1 (by rw [z]; exact List.mem_map.mpr ⟨_, e, rfl⟩)]
      exact ih hn.2 e
theorem putD_mem {kvs : List (κ × α)} {k : κ} {v : α} {q : κ × α} (h : q ∈ putD kvs k v) : q = (k, v) ∨ q ∈ kvs := by
  unfold putD at h
  split at h
  · obtain ⟨r, hr, e⟩ := List.mem_map.mp h
    by_cases z : r.1 = k
    · rw [if_pos z] at e; rw [← e, z]; exact .inl rfl
    · rw [if_neg z] at e; rw [← e]; exact .inr hr
  · rcases List.mem_append.mp h with z | z
    · exact .inr z
    · exact .inl (by simpa using z)
def rowsF (rows : List (κ × List τ)) (k : κ) : List τ := (getD' rows k).getD []
def seenL (seen : List τ) : List (τ × D) := seen.map fun t => (t, .bl true)
theorem seen_get (seen : List τ) (t : τ) : (getD' (seenL seen) t).isSome = decide (t ∈ seen) := by
  induction seen with
  | nil => rfl
  | cons x r ih =>
    show (getD' ((x, D.bl true) :: seenL r) t).isSome = _
    rw [getD'_cons]
    by_cases e : x = t
    · simp [e]
    · rw [if_neg e, ih]
      have : t ≠ x := fun z => e z.symm
      simp [this]
theorem seen_put {seen : List τ} {t : τ} (h : t ∉ seen) : putD (seenL seen) t (.bl true) = seenL (seen ++ [t]) := by
  rw [putD_new, seenL, seenL, List.map_append]
  · rfl
  · intro z
    obtain ⟨p, hp, e⟩ := List.mem_map.mp z
    obtain ⟨x, hx, e2⟩ := List.mem_map.mp hp
    rw [← e2] at e
    exact h (by rw [← show x = t from e]; exact hx)
end
/-! ### try_for -/
structure TryA (κ τ : Type) where
  rows : List (κ × List τ)
  h : Addr
  key : κ
  s : Addr
  held : List (τ × κ)
  seen : List τ
  U : List τ
section
variable {κ τ : Type} [DecidableEq κ] [DecidableEq τ] (A : Dk κ) (B : Dk τ)
def rowsL (rows : List (κ × List τ)) : List (κ × D) := rows.map fun p => (p.1, .lst (p.2.map B.kd))
def heldL (held : List (τ × κ)) : List (τ × D) := held.map fun p => (p.1, A.kd p.2)
def encTry (x : TryA κ τ) : List Ar := [.d (A.fd (rowsL B x.rows)), .d (.mref x.h), .d (A.kd x.key), .d (.mref x.s)]
structure HeldOk (rows : List (κ × List τ)) (U : List τ) (held : List (τ × κ)) : Prop where
  nd : (held.map (·.1)).Nodup
  sub : ∀ p ∈ held, p.1 ∈ U
  key : ∀ p ∈ held, p.2 ∈ rows.map (·.1)
structure RowsOk (rows : List (κ × List τ)) (U : List τ) : Prop where
  sub : ∀ p ∈ rows, ∀ t ∈ p.2, t ∈ U
  lenU : U.length ≤ 1000
structure PreTry (n : Nat) (x : TryA κ τ) (μ : Mu) : Prop where
  rows : RowsOk x.rows x.U
  ne : x.h ≠ x.s
  mh : μ x.h = some (B.mo (heldL A x.held))
  ms : μ x.s = some (B.mo (seenL x.seen))
  held : HeldOk x.rows x.U x.held
  nd : x.seen.Nodup
  sub : ∀ t ∈ x.seen, t ∈ x.U
  key : x.key ∈ x.rows.map (·.1)
  few : (x.U.filter fun t => decide (t ∉ x.seen)).length ≤ n
structure PostTry (x : TryA κ τ) (μ : Mu) (b : Bool) (held : List (τ × κ)) (seen : List τ) (μ' : Mu) : Prop where
  mh : μ' x.h = some (B.mo (heldL A held))
  ms : μ' x.s = some (B.mo (seenL seen))
  other : ∀ a, a ≠ x.h → a ≠ x.s → μ' a = μ a
  hok : HeldOk x.rows x.U held
  nd : seen.Nodup
  sub : ∀ t ∈ seen, t ∈ x.U
  up : ∀ t ∈ x.seen, t ∈ seen
  no : b = false → held = x.held ∧ TryFail (rowsF x.rows) (getD' x.held) (· ∈ x.seen) x.key (· ∈ seen)
  yes : b = true → Aug (rowsF x.rows) (getD' x.held) (· ∈ x.seen) x.key (getD' held)
def sp_try (K : PySem.W.Frag) (n : Nat) : Sp := spX K (encTry A B) (PreTry A B n) (fun x μ d μ' => ∃ b held seen, d = .bl b ∧ PostTry A B x μ b held seen μ')
end
/-- slots: 0 rows, 1 held, 2 key, 3 seen, 4 thing -/
def t_try_for (K : PySem.W.Frag) (spr_try_for : Sp) : TS := (tSeq (tFor (iSeq K (rIxU K (tVar 0) (tVar 2))) (gName 4) (tIfS (tNotInT K (tVar 4) (tVar 3)) (tSeq (sPutU (tVar 3) (tVar 4) (tC (.bl true))) (tIfS (tOr (tNotInT K (tVar 4) (tVar 1)) (tB (tCall spr_try_for [] E0 (tCons (tVar 0) (tCons (tVar 1) (tCons (rIxU K (tVar 1) (tVar 4)) (tCons (tVar 3) tNil))))))) (tSeq (sPutU (tVar 1) (tVar 4) (tVar 2)) (tRet (tC (.bl true)))) tNext)) tNext)) (tRet (tC (.bl false))))
theorem length_sub {τ : Type} [DecidableEq τ] {xs ys : List τ} (h : xs.Nodup) (s : ∀ t ∈ xs, t ∈ ys) : xs.length ≤ ys.length := sub_len h s
theorem few_less {τ : Type} [DecidableEq τ] {U seen : List τ} {t : τ} (hU : t ∈ U) (h : t ∉ seen) : (U.filter fun x => decide (x ∉ seen ++ [t])).length < (U.filter fun x => decide (x ∉ seen)).length := by
  induction U with
  | nil => cases hU
  | cons x U ih =>
    rw [List.filter_cons, List.filter_cons]
    have mono : (U.filter fun x => decide (x ∉ seen ++ [t])).length ≤ (U.filter fun x => decide (x ∉ seen)).length := by
      have : (U.filter fun x => decide (x ∉ seen ++ [t])) = (U.filter fun x => decide (x ∉ seen)).filter fun x => decide (x ≠ t) := by
        rw [List.filter_filter]
        refine List.filter_congr fun y _ => ?_
        simp [List.mem_append, not_or, and_comm]
      rw [this]
      exact List.length_filter_le _ _
    by_cases e : x = t
    · subst e
      rw [if_neg (by simp), if_pos (by simp [h])]
      simp only [List.length_cons]
      omega
    · have hU' : t ∈ U := (List.mem_cons.mp hU).resolve_left fun z => e z.symm
      have := ih hU'
      by_cases z : x ∈ seen
      · rw [if_neg (by simp [z]), if_neg (by simp [z])]; exact this
      · rw [if_pos (by simp [z, e]), if_pos (by simp [z])]
        simp only [List.length_cons]
        omega
section
variable {κ τ : Type} [DecidableEq κ] [DecidableEq τ] (A : Dk κ) (B : Dk τ) {K : PySem.W.Frag} {lk : Bool}
theorem held_get (held : List (τ × κ)) (t : τ) : getD' (heldL A held) t = (getD' held t).map A.kd := getD'_mapv A.kd t held
theorem held_put (held : List (τ × κ)) (t : τ) (k : κ) : putD (heldL A held) t (A.kd k) = heldL A (putD held t k) := putD_mapv A.kd held t k
theorem held_len {rows : List (κ × List τ)} {U : List τ} {held : List (τ × κ)} (h : HeldOk rows U held) (hU : RowsOk rows U) : held.length ≤ 1000 := by
  have := length_sub h.nd (ys := U) fun t ht => by
    obtain ⟨p, hp, e⟩ := List.mem_map.mp ht
    rw [← e]
    exact h.sub p hp
  rw [List.length_map] at this
  exact Nat.le_trans this hU.lenU
theorem rows_get {rows : List (κ × List τ)} {k : κ} (h : k ∈ rows.map (·.1)) : getD' (rowsL B rows) k = some (.lst ((rowsF rows k).map B.kd)) := by
  unfold rowsL
  rw [getD'_mapv (fun ts : List τ => D.lst (ts.map B.kd)) k rows]
  cases e : getD' rows k with
  | none => exact absurd h (getD'_none_iff.mp e)
  | some ts =>
    unfold rowsF
    rw [e]
    rfl
theorem rowsF_mem {rows : List (κ × List τ)} {U : List τ} (h : RowsOk rows U) {k : κ} {t : τ} (ht : t ∈ rowsF rows k) : t ∈ U := by
  unfold rowsF at ht
  cases e : getD' rows k with
  | none => rw [e] at ht; cases ht
  | some ts =>
    rw [e] at ht
    exact h.sub _ (getD'_mem e) t ht
theorem HeldOk.put {rows : List (κ × List τ)} {U : List τ} {held : List (τ × κ)} (h : HeldOk rows U held) {t : τ} {k : κ} (ht : t ∈ U) (hk : k ∈ rows.map (·.1)) : HeldOk rows U (putD held t k) := ⟨nodup_put h.nd t k, fun p hp => by
  rcases putD_mem hp with e | e
  · rw [e]; exact ht
  · exact h.sub p e, fun p hp => by
  rcases putD_mem hp with e | e
  · rw [e]; exact hk
  · exact h.key p e⟩
theorem upd_put (held : List (τ × κ)) (t : τ) (k : κ) : getD' (putD held t k) = updH (getD' held) t k := funext fun x => by
  rw [getD'_put]
  rfl
/-- while the things of the key are gone through -/
structure IvTry (x : TryA κ τ) (μ : Mu) (i : Nat) (seen : List τ) (μ' : Mu) : Prop where
  mh : μ' x.h = some (B.mo (heldL A x.held))
  ms : μ' x.s = some (B.mo (seenL seen))
  other : ∀ a, a ≠ x.h → a ≠ x.s → μ' a = μ a
  nd : seen.Nodup
  sub : ∀ t ∈ seen, t ∈ x.U
  up : ∀ t ∈ x.seen, t ∈ seen
  tk : ∀ t ∈ (rowsF x.rows x.key).take i, t ∈ seen
  cl : ∀ t ∈ seen, t ∉ x.seen → ∃ k, getD' x.held t = some k ∧ ∀ z ∈ rowsF x.rows k, z ∈ seen
def slTry (x : TryA κ τ) (y : Sl) : List Sl := [.dat (A.fd (rowsL B x.rows)), .dat (.mref x.h), .dat (A.kd x.key), .dat (.mref x.s), y]
theorem st_try {spr : Sp} {n : Nat} (hin : ∀ m, n = m + 1 → ∀ vs H Q E, sp_try A B K m vs H Q E → spr vs H Q E) (L : Addr → Prop) (x : TryA κ τ) (μ : Mu) (pre : PreTry A B n x μ) :
    StX K lk L (t_try_for K spr) (startS 5 (encTry A B x)) μ (FnX fun d μ' => ∃ b held seen, d = .bl b ∧ PostTry A B x μ b held seen μ') := by
  have hlenH := held_len pre.held pre.rows
  refine sx_forq (ix (is_lst (A.eget (A.ev (ev_v rfl)) (ev_v rfl) (rows_get B pre.key)))) (fun xs i ρ μ1 => xs = (rowsF x.rows x.key).map B.kd ∧ ∃ seen1 y, ρ = slTry A B x y ∧ IvTry A B x μ i seen1 μ1)
    (fun xs μ' ⟨e, em⟩ => ⟨e, x.seen, _, rfl, by rw [em]; exact ⟨pre.mh, pre.ms, fun _ _ _ => rfl, pre.nd, pre.sub, fun t ht => ht, fun t ht => by simp at ht, fun t ht hn => absurd ht hn⟩⟩) (fun xs i y ρ1 μ1 hx iv => ?_) fun xs ρ' μ' iv => ?_
  · obtain ⟨exs, seen1, y0, rfl, iv⟩ := iv
    rw [exs, List.getElem?_map] at hx
    cases ht : (rowsF x.rows x.key)[i]? with
    | none => rw [ht] at hx; cases hx
    | some t =>
      rw [ht] at hx
      have hx : B.kd t = y := Option.some.inj hx
      subst hx
      have htm : t ∈ rowsF x.rows x.key := List.mem_of_getElem? ht
      have htU : t ∈ x.U := rowsF_mem pre.rows htm
      have tkS : ∀ {S : List τ}, (∀ z ∈ (rowsF x.rows x.key).take i, z ∈ S) → t ∈ S → ∀ z ∈ (rowsF x.rows x.key).take (i + 1), z ∈ S := fun {S} h1 h2 z hz => by
        rw [take_succ_of ht] at hz
        rcases List.mem_append.mp hz with q | q
        · exact h1 z q
        · rw [List.mem_singleton.mp q]; exact h2
      refine ⟨slTry A B x (.dat (B.kd t)), tgx_name, ?_⟩
      have hl1 : seen1.length ≤ 1000 := Nat.le_trans (length_sub iv.nd iv.sub) pre.rows.lenU
      refine sx_ifD (B.xnotin (k := t) (ev_v rfl) (ev_v rfl) iv.ms) (fun eb => ?_) fun eb => ?_
      · have hts : t ∉ seen1 := by
          rw [seen_get] at eb
          simpa using eb
        refine B.xputq (k := t) ev_bl (ev_v rfl) (ev_v rfl) iv.ms (by rw [seenL, List.length_map]; omega) ?_
        rw [seen_put hts]
        have nts : t ∉ x.seen := fun z => hts (iv.up t z)
        have m2s : (μ1.put x.s (B.mo (seenL (seen1 ++ [t])))) x.s = some (B.mo (seenL (seen1 ++ [t]))) := Mu.put_same _ _ _
        have m2h : (μ1.put x.s (B.mo (seenL (seen1 ++ [t])))) x.h = some (B.mo (heldL A x.held)) := by rw [Mu.put_ne pre.ne]; exact iv.mh
        have m2o : ∀ a, a ≠ x.h → a ≠ x.s → (μ1.put x.s (B.mo (seenL (seen1 ++ [t])))) a = μ a := fun a h1 h2 => by rw [Mu.put_ne h2]; exact iv.other a h1 h2
        have nd2 : (seen1 ++ [t]).Nodup := by
          rw [List.nodup_append]
          exact ⟨iv.nd, by simp, fun a ha b hb e => hts (by rw [← List.mem_singleton.mp hb, ← e]; exact ha)⟩
        have sub2 : ∀ z ∈ seen1 ++ [t], z ∈ x.U := fun z hz => by
          rcases List.mem_append.mp hz with q | q
          · exact iv.sub z q
          · rw [List.mem_singleton.mp q]; exact htU
        have up2 : ∀ z ∈ x.seen, z ∈ seen1 ++ [t] := fun z hz => List.mem_append_left _ (iv.up z hz)
        generalize μ1.put x.s (B.mo (seenL (seen1 ++ [t]))) = μ2 at m2s m2h m2o ⊢
        refine sx_if (T := fun b μ3 => ∃ held2 seen2, μ3 x.h = some (B.mo (heldL A held2)) ∧ μ3 x.s = some (B.mo (seenL seen2)) ∧ (∀ a, a ≠ x.h → a ≠ x.s → μ3 a = μ a) ∧ HeldOk x.rows x.U held2 ∧ seen2.Nodup ∧ (∀ z ∈ seen2, z ∈ x.U) ∧ (∀ z ∈ seen1 ++ [t], z ∈ seen2) ∧
            (b = true → Aug (rowsF x.rows) (getD' x.held) (· ∈ x.seen) x.key (updH (getD' held2) t x.key)) ∧ (b = false → held2 = x.held ∧ ∃ k, getD' x.held t = some k ∧ TryFail (rowsF x.rows) (getD' x.held) (· ∈ seen1 ++ [t]) k (· ∈ seen2))) ?_ (fun μ3 hT => ?_) fun μ3 hT => ?_
        · refine tx_or (B.xnotin (k := t) (ev_v rfl) (ev_v rfl) m2h) (fun μ3 ⟨eb, em⟩ => ?_) fun μ3 ⟨eb, em⟩ => ?_
          · rw [em]
            have hn : getD' x.held t = none := by
              rw [held_get] at eb
              cases e : getD' x.held t with
              | none => rfl
              | some k => rw [e] at eb; cases eb
            exact ⟨x.held, seen1 ++ [t], m2h, m2s, m2o, pre.held, nd2, sub2, fun z hz => hz, fun _ => .free htm nts hn, fun z => Bool.noConfusion z⟩
          · rw [em]
            obtain ⟨k, hk⟩ : ∃ k, getD' x.held t = some k := by
              rw [held_get] at eb
              cases e : getD' x.held t with
              | none => rw [e] at eb; cases eb
              | some k => exact ⟨k, rfl⟩
            have fl := few_less htU hts
            have mono : (x.U.filter fun z => decide (z ∉ seen1)).length ≤ (x.U.filter fun z => decide (z ∉ x.seen)).length := by
              have : (x.U.filter fun z => decide (z ∉ seen1)) = (x.U.filter fun z => decide (z ∉ x.seen)).filter fun z => decide (z ∉ seen1) := by
                rw [List.filter_filter]
                refine List.filter_congr fun y _ => ?_
                by_cases q : y ∈ seen1
                · simp [q]
                · have : y ∉ x.seen := fun z => q (iv.up y z)
                  simp [q, this]
              rw [this]
              exact List.length_filter_le _ _
            have fw := pre.few
            obtain ⟨m, hm⟩ : ∃ m, n = m + 1 := ⟨n - 1, by omega⟩
            have hkk : k ∈ x.rows.map (·.1) := pre.held.key _ (getD'_mem hk)
            refine tx_B (ex_callS (hin m hm) (C := fun as μ' => as = encTry A B ⟨x.rows, x.h, k, x.s, x.held, seen1 ++ [t], x.U⟩ ∧ μ' = μ2) (ax_consD (ev_v rfl) (ax_consD (ev_v rfl) (ax_consX (B.xget (k := t) (d := A.kd k) (ev_v rfl) m2h (ev_v rfl) (by rw [held_get, hk]; rfl)) (ax_consD (ev_v rfl) (ax_nil' ⟨rfl, rfl⟩))))) fun as μ7 ⟨c1, c2⟩ => ⟨_, c1, by rw [c2]; exact ⟨pre.rows, pre.ne, m2h, m2s, pre.held, nd2, sub2, hkk, by show (x.U.filter fun z => decide (z ∉ seen1 ++ [t])).length ≤ m; omega⟩, fun d μ8 ⟨b, held2, seen2, ed, po⟩ => ⟨b, ed, held2, seen2, po.mh, po.ms, fun a h1 h2 => by rw [po.other a h1 h2, c2]; exact m2o a h1 h2, po.hok, po.nd, po.sub, po.up, fun eb => ?_, fun eb => ⟨(po.no eb).1, k, hk, (po.no eb).2⟩⟩⟩)
            refine .step htm nts hk ?_
            exact (po.yes eb).weak fun y hy => hy.elim (fun q => up2 y q) fun q => by rw [q]; simp
        · obtain ⟨held2, seen2, m3h, m3s, m3o, ho2, nd3, sub3, up3, aug, _⟩ := hT
          have l2 := held_len ho2 pre.rows
          refine B.xputq (k := t) (ev_v rfl) (ev_v rfl) (ev_v rfl) m3h (by rw [heldL, List.length_map]; omega) ?_
          refine sx_retD ev_bl ⟨true, putD held2 t x.key, seen2, rfl, ⟨?_, by rw [Mu.put_ne (fun z => pre.ne z.symm)]; exact m3s, fun a h1 h2 => by rw [Mu.put_ne h1]; exact m3o a h1 h2, ho2.put htU pre.key, nd3, sub3, fun z hz => up3 z (up2 z hz), fun z => Bool.noConfusion z, fun _ => ?_⟩⟩
          · rw [Mu.put_same, held_put]
          · rw [upd_put]
            exact aug rfl
        · obtain ⟨held2, seen2, m3h, m3s, m3o, ho2, nd3, sub3, up3, _, no⟩ := hT
          obtain ⟨rfl, k, hk, tf⟩ := no rfl
          refine sx_next ⟨exs, seen2, _, rfl, ⟨m3h, m3s, m3o, nd3, sub3, fun z hz => up3 z (up2 z hz), tkS (fun z hz => up3 z (List.mem_append_left _ (iv.tk z hz))) (up3 t (by simp)), fun z hz hn => ?_⟩⟩
          by_cases q : z ∈ seen1 ++ [t]
          · rcases List.mem_append.mp q with q | q
            · obtain ⟨k', e', al⟩ := iv.cl z q hn
              exact ⟨k', e', fun y hy => up3 y (List.mem_append_left _ (al y hy))⟩
            · rw [List.mem_singleton.mp q]
              exact ⟨k, hk, tf.all⟩
          · exact tf.new z hz q
      · have hts : t ∈ seen1 := by
          rw [seen_get] at eb
          simpa using eb
        exact sx_next ⟨exs, seen1, _, rfl, ⟨iv.mh, iv.ms, iv.other, iv.nd, iv.sub, iv.up, tkS iv.tk hts, iv.cl⟩⟩
  · obtain ⟨exs, seen1, y0, rfl, iv⟩ := iv
    refine sx_retD ev_bl ⟨false, x.held, seen1, rfl, ⟨iv.mh, iv.ms, iv.other, pre.held, iv.nd, iv.sub, iv.up, fun _ => ⟨rfl, ⟨iv.up, fun z hz => iv.tk z ?_, fun z h1 h2 => iv.cl z h1 h2⟩⟩, fun z => Bool.noConfusion z⟩⟩
    rw [exs, List.length_map, List.take_length]
    exact hz
end
section
variable {K : PySem.W.Frag} {lk : Bool}
/-- rounds to payments, or payments to rounds -/
def spN_try_for (K : PySem.W.Frag) (n : Nat) : Sp := fun vs H Q E => sp_try dkI dkT K n vs H Q E ∨ sp_try dkT dkI K n vs H Q E
def sp_try_for (K : PySem.W.Frag) : Sp := spN_try_for K 90
theorem len_try_for (n : Nat) : ∀ vs H Q E, spN_try_for K n vs H Q E → vs.length = 4 := fun vs H Q E h => h.elim (fun z => spx_len (K := K) (enc := encTry dkI dkT) (fun _ => rfl) vs H Q E z) fun z => spx_len (K := K) (enc := encTry dkT dkI) (fun _ => rfl) vs H Q E z
theorem run_try_for (n : Nat) : ∀ vs H Q E, spN_try_for K (n + 1) vs H Q E → t_try_for K (spN_try_for K n) { nx := fun _ H' => Q .non H', rt := Q } (L2.start ["rows", "held", "key", "seen", "thing"] vs) H := fun vs H Q E h => by
  rcases h with h | h
  · exact spx_run 5 rfl (fun lk x μ pre => st_try dkI dkT (fun m e vs H Q E z => .inl (by cases e; exact z)) _ x μ pre) vs H Q E h
  · exact spx_run 5 rfl (fun lk x μ pre => st_try dkT dkI (fun m e vs H Q E z => .inr (by cases e; exact z)) _ x μ pre) vs H Q E h
theorem run_try_for0 (spr : Sp) : ∀ vs H Q E, spN_try_for K 0 vs H Q E → t_try_for K spr { nx := fun _ H' => Q .non H', rt := Q } (L2.start ["rows", "held", "key", "seen", "thing"] vs) H := fun vs H Q E h => by
  rcases h with h | h
  · exact spx_run 5 rfl (fun lk x μ pre => st_try dkI dkT (fun m e => absurd e (by omega)) _ x μ pre) vs H Q E h
  · exact spx_run 5 rfl (fun lk x μ pre => st_try dkT dkI (fun m e => absurd e (by omega)) _ x μ pre) vs H Q E h
end
end RF

set_option Elab.async false
set_option linter.all false
set_option maxRecDepth 100000
set_option maxHeartbeats 4000000
set_option autoImplicit false
namespace RF
open PySem L2
/-! ### paired -/
section
variable {κ τ : Type} [DecidableEq κ] [DecidableEq τ]
/-- what is paired: a matching of some keys, the others blocked -/
def PairedOk (rows : List (κ × List τ)) (had : List (κ × τ)) : Prop := ∃ held : List (τ × κ), Matched (rowsF rows) (getD' held) (rows.map (·.1)) ∧ (held.map (·.1)).Nodup ∧ had = held.map fun p => (p.2, p.1)
structure PrePaired (rows : List (κ × List τ)) : Prop where
  ex : ∃ U : List τ, RowsOk rows U ∧ U.length ≤ 90
  nd : (rows.map (·.1)).Nodup
  len : rows.length ≤ 1000
variable (A : Dk κ) (B : Dk τ)
def hadL (had : List (κ × τ)) : List (κ × D) := had.map fun p => (p.1, B.kd p.2)
def sp_paired1 (K : PySem.W.Frag) : Sp := spP K false (fun x : List (κ × List τ) => [.d (A.fd (rowsL B x))]) PrePaired (fun x d => ∃ had, d = A.fd (hadL B had) ∧ PairedOk x had)
end
/-- slots: 0 rows, 1 held, 2 key, 3 thing -/
def t_paired (K : PySem.W.Frag) : TS := (tSeq (tAsg (eOr tDNewK tDNewT) (gName 1)) (tSeq (tFor (iKeys (tVar 0)) (gName 2) (tDrop (tCall (sp_try_for K) [] E0 (tCons (tVar 0) (tCons (tVar 1) (tCons (tVar 2) (tCons (eOr tDNewK tDNewT) tNil))))))) (tFz (tRet (eFz (tDcU (iOr (iItems (tVar 1)) (iItemsT (tVar 1))) (gTup K 2 (gCons (gName 3) (gCons (gName 2) gNil))) tYes (tVar 2) (tVar 3) [3, 2]))))))
section
variable {κ τ : Type} [DecidableEq κ] [DecidableEq τ] (A : Dk κ) (B : Dk τ) {K : PySem.W.Frag} {lk : Bool}
theorem keysL (rows : List (κ × List τ)) : (rowsL B rows).map (fun q => A.kd q.1) = (rows.map (·.1)).map A.kd := by
  unfold rowsL
  rw [List.map_map, List.map_map]
  rfl
theorem take_keys {α β : Type} (xs : List (α × β)) (i : Nat) : (xs.take i).map (·.1) = (xs.map (·.1)).take i := by rw [List.map_take]
theorem val_new {held : List (τ × κ)} (nd : (held.map (·.1)).Nodup) (inj : ∀ t t' k, getD' held t = some k → getD' held t' = some k → t = t') {i : Nat} {t : τ} {k : κ} (h : held[i]? = some (t, k)) : k ∉ (held.take i).map (·.2) := fun z => by
  obtain ⟨q, hq, e⟩ := List.mem_map.mp z
  have h1 : getD' held q.1 = some k := getD'_of_mem nd (by rw [← e]; exact List.mem_of_mem_take hq)
  have h2 : getD' held t = some k := getD'_of_mem nd (List.mem_of_getElem? h)
  have h3 : (held.map (·.1))[i]? = some t := by rw [List.getElem?_map, h]; rfl
  refine not_mem_take nd h3 ?_
  rw [← take_keys, ← inj _ _ _ h1 h2]
  exact List.mem_map.mpr ⟨q, hq, rfl⟩
theorem st_paired {sp : Sp} (hsp : ∀ vs H Q E, sp_try A B K 90 vs H Q E → sp vs H Q E) (hs : sp = sp_try_for K) (x : List (κ × List τ)) (pre : PrePaired x) :
    StX K lk noL (t_paired K) (startS 4 [.d (A.fd (rowsL B x))]) mu0 (FnX fun d _ => ∃ had, d = A.fd (hadL B had) ∧ PairedOk x had) := by
  obtain ⟨U, rok, u90⟩ := pre.ex
  refine B.xnew fun a _ => ?_
  refine sx_forq (ix (A.itk (ev_v rfl))) (fun xs i ρ μ1 => xs = (x.map (·.1)).map A.kd ∧ ∃ held y2 y3, ρ = [.dat (A.fd (rowsL B x)), .dat (.mref a), y2, y3] ∧ μ1 a = some (B.mo (heldL A held)) ∧ HeldOk x U held ∧ Matched (rowsF x) (getD' held) ((x.map (·.1)).take i))
    (fun xs μ' ⟨e, em⟩ => ⟨by rw [e, keysL], [], _, _, rfl, by rw [em]; exact Mu.put_same _ _ _, ⟨.nil, (fun _ h => nomatch h), (fun _ h => nomatch h)⟩, Matched.nil⟩) (fun xs i y ρ1 μ1 hx iv => ?_) fun xs ρ' μ' iv => ?_
  · obtain ⟨exs, held, y2, y3, rfl, mh, hok, mt⟩ := iv
    rw [exs, List.getElem?_map] at hx
    cases hk : (x.map (·.1))[i]? with
    | none => rw [hk] at hx; cases hx
    | some key =>
      rw [hk] at hx
      have hx : A.kd key = y := Option.some.inj hx
      subst hx
      have hkm : key ∈ x.map (·.1) := List.mem_of_getElem? hk
      refine ⟨_, tgx_name, ?_⟩
      refine sx_drop (X := fun d μ' => ∃ held', μ' a = some (B.mo (heldL A held')) ∧ HeldOk x U held' ∧ Matched (rowsF x) (getD' held') ((x.map (·.1)).take (i + 1))) ?_ fun d μ' ⟨held', m', h1, h2⟩ => ⟨exs, held', _, _, rfl, m', h1, h2⟩
      rw [← hs]
      refine ex_callS hsp (C := fun as μ' => ∃ a2, μ1 a2 = none ∧ as = encTry A B ⟨x, a, key, a2, held, [], U⟩ ∧ μ' = μ1.put a2 (B.mo [])) (ax_consD (ev_v rfl) (ax_consD (ev_v rfl) (ax_consD (ev_v rfl) (ax_cons B.xnewE fun d μ2 ⟨a2, n2, ed, em⟩ => ax_nil' ⟨a2, n2, by rw [ed]; rfl, em⟩)))) fun as μ2 ⟨a2, n2, e1, e2⟩ => ⟨_, e1, ?_, fun d μ3 ⟨b, held', seen', ed, po⟩ => ?_⟩
      · have na : a ≠ a2 := fun z => by rw [z, n2] at mh; cases mh
        rw [e2]
        refine ⟨rok, na, by rw [Mu.put_ne na]; exact mh, Mu.put_same _ _ _, hok, .nil, (fun _ h => nomatch h), hkm, ?_⟩
        exact Nat.le_trans (List.length_filter_le _ _) u90
      · refine ⟨held', po.mh, po.hok, ?_⟩
        rw [take_succ_of hk]
        cases b with
        | true => exact mt.aug (not_mem_take pre.nd hk) ((po.yes rfl).weak fun _ z => z.elim)
        | false =>
          obtain ⟨e, tf⟩ := po.no rfl
          have e : held' = held := e
          subst e
          exact mt.fail (seen' := (· ∈ seen')) ⟨fun _ z => z.elim, tf.all, fun t h1 h2 => tf.new t h1 (by simp)⟩
  · obtain ⟨exs, held, y2, y3, rfl, mh, hok, mt⟩ := iv
    rw [exs, List.length_map, List.take_length] at mt
    refine B.xfz (i := 1) rfl mh id ?_
    have hl := held_len hok rok
    refine sx_retD (d := A.fd (hadL B (held.map fun p => (p.2, p.1)))) ?_ ⟨held.map fun p => (p.2, p.1), rfl, held, mt, hok.nd, rfl⟩
    refine A.edc (js := [3, 2]) (B.iti (ev_v rfl)) (fun xs i kvs => xs = (heldL A held).map (fun q => .tup [B.kd q.1, q.2]) ∧ kvs = (held.take i).map fun p => (p.2, B.kd p.1)) (fun xs e => ⟨e, rfl⟩) (fun xs e => by rw [show xs = _ from e, List.length_map, heldL, List.length_map]; omega) (by decide) (fun xs i y kvs e hx acc => ?_) fun xs kvs e acc => ?_
    · obtain ⟨e1, e2⟩ := acc
      rw [e1, List.getElem?_map, heldL, List.getElem?_map] at hx
      cases hp : held[i]? with
      | none => rw [hp] at hx; cases hx
      | some q =>
        rw [hp] at hx
        have hx : D.tup [B.kd q.1, A.kd q.2] = y := Option.some.inj hx
        subst hx
        refine ⟨_, _, tg_tup2, et_yes, (fun z => Bool.noConfusion z), fun _ => ⟨q.2, ev_v rfl, (ev_v rfl : EvD K lk (tVar 3) _ (B.kd q.1)).imp fun d ed => ⟨e1, ?_⟩⟩⟩
        rw [show d = _ from ed, e2, take_succ_of hp, List.map_append]
        refine putD_new fun z => val_new hok.nd mt.inj (t := q.1) (k := q.2) hp ?_
        rw [List.map_map] at z
        exact z
    · obtain ⟨e1, e2⟩ := acc
      rw [e2, e1]
      have : ((heldL A held).map fun q => D.tup [B.kd q.1, q.2]).length = held.length := by rw [List.length_map, heldL, List.length_map]
      rw [this, List.take_length]
      unfold hadL
      rw [List.map_map]
      rfl
end
section
variable {K : PySem.W.Frag} {lk : Bool}
def sp_paired (K : PySem.W.Frag) : Sp := fun vs H Q E => sp_paired1 dkI dkT K vs H Q E ∨ sp_paired1 dkT dkI K vs H Q E
theorem len_paired : ∀ vs H Q E, sp_paired K vs H Q E → vs.length = 1 := fun vs H Q E h => h.elim (fun z => sp_len (K := K) (enc := fun x : List (Key × List (List Key)) => [.d (dkI.fd (rowsL dkT x))]) (fun _ => rfl) vs H Q E z) fun z => sp_len (K := K) (enc := fun x : List (List Key × List Key) => [.d (dkT.fd (rowsL dkI x))]) (fun _ => rfl) vs H Q E z
theorem run_paired : ∀ vs H Q E, sp_paired K vs H Q E → t_paired K { nx := fun _ H' => Q .non H', rt := Q } (L2.start ["rows", "held", "key", "thing"] vs) H := fun vs H Q E h => by
  rcases h with h | h
  · exact sp_runX 4 rfl (fun lk _ x pre => st_paired dkI dkT (sp := sp_try_for K) (fun _ _ _ _ z => .inl z) rfl x pre) vs H Q E h
  · exact sp_runX 4 rfl (fun lk _ x pre => st_paired dkT dkI (sp := sp_try_for K) (fun _ _ _ _ z => .inr z) rfl x pre) vs H Q E h
end
end RF

set_option Elab.async false
set_option linter.all false
set_option maxRecDepth 100000
set_option maxHeartbeats 4000000
set_option autoImplicit false
set_option exponentiation.threshold 6000
namespace RF
open PySem L2
section
variable {K : PySem.W.Frag} {lk : Bool} {ρ ρ' : List Sl} {ta tb te : TE} {tt : TT} {P : D → Prop} {g g1 : TG} {wi wi1 : TI} {d : D}
/-- a tuple that may be a key -/
theorem eu_tupK {ta : TA} (ks : List Key) (h : EvA K lk ta ρ (fun x => x = dats (ks.map kD))) (hl : ks.length ≤ 1000) : EvD K lk (tTupU ta) ρ (.tk ks) := ev_l fun w0 w σ s Q gq => h w0 w σ s _ fun vs w1 as l1 ok1 r1 e => by
  subst e
  have r := ars_dats r1
  have e : vs = ks.map kV := by
    clear h gq hl
    induction ks generalizing vs with
    | nil => exact r
    | cons k ks ih =>
      obtain ⟨x, t, e, q, z⟩ := r
      rw [e, kD_inj (J := w1.I) q, ih t ?_ z]
      · rfl
      · obtain ⟨v, s, e2, q2, z2⟩ := r1
        rw [e] at e2
        cases e2
        exact z2
  refine ⟨by rw [e, List.length_map]; exact Nat.le_trans hl (by decide), fun a ha => ?_⟩
  rw [e]
  exact (gq.up l1).new (d := .tk ks) ok1 ha True.intro ⟨a, rfl, upd_same⟩ rfl
theorem tg_w {js : List Nat} {x y : D} (h : TgS K lk g js y ρ ρ') (hw : ∀ I v, Rp K I x v → Rp K I y v) : TgS K lk g js x ρ ρ' := fun w0 w σ v s r Q k => h w0 w σ v s (hw _ _ r) Q k
theorem tg_tk2 {i j : Nat} {a b : Key} : TgS K lk (gTup K 2 (gCons (gName i) (gCons (gName j) gNil))) [i, j] (.tk [a, b]) ρ ((ρ.set i (.dat (kD a))).set j (.dat (kD b))) := tg_w tg_tup2 fun _ _ r => tk_tup r
/-- [.. for .. in .. for .. in ..] -/
theorem ev_lc2 {js js1 vs vs1 : List Nat} {xs : List D} (hi : ItS K lk wi ρ (fun ys => ys = xs)) (vals : D → List D) (hl : (xs.flatMap vals).length ≤ 100000) (hj : ∀ j ∈ js, j ∈ vs) (hj1 : ∀ j ∈ js1, j ∈ vs1)
    (turn : ∀ x ∈ xs, ∃ ρ2 ys, TgS K lk g js x (wipeS ρ vs) ρ2 ∧ ItS K lk wi1 ρ2 (fun zs => zs = ys) ∧ ys.length = (vals x).length ∧
      ∀ (j : Nat) (y z : D), ys[j]? = some y → (vals x)[j]? = some z → ∃ ρ3, TgS K lk g1 js1 y (wipeS ρ2 vs1) ρ3 ∧ EvD K lk te ρ3 z) :
    EvD K lk (tLc2 wi g tYes wi1 g1 tYes te vs vs1) ρ (.lst (xs.flatMap vals)) := fun w0 w σ s Q gq => hi w0 w σ s _ fun J w1 xs' l1 ok1 hX Y Dl hD => by
    have hX : xs' = xs := hX
    subst hX
    have s1 := s.mono l1 ok1
    have tpD : w1.tp ≠ some Dl := not_tape ok1 hD
    have hDI : w1.I Dl = none := notI ok1 hD
    let Ok : List D → Wd → Prop := fun zs w' => w1.le w' ∧ w'.Ok ∧ w'.I Dl = none ∧ ∃ us, w'.H Dl = some (.lst us) ∧ RpL K w'.I zs us
    have okUp : ∀ {zs w' wa}, Ok zs w' → w'.le wa → wa.Ok → Ok zs wa := fun {zs w' wa} o la oka => by
      obtain ⟨o1, o2, o3, us, o4, o5⟩ := o
      exact ⟨o1.trans la, oka, la.fr Dl o3 (by rw [o4]; exact fun z => nomatch z), us, la.H Dl _ o4 (by rw [o1.tp]; exact tpD), o5.mono la.I⟩
    refine ⟨fun i m H' => m = xs'.length - i ∧ i ≤ xs'.length ∧ ∃ w', w'.H = H' ∧ Ok ((xs'.take i).flatMap vals) w',
      ⟨xs'.length, by simp, Nat.zero_le _, w1.put Dl (.lst []), rfl, Wd.le_put (.refl w1) hD, Wd.put_ok ok1 hDI tpD True.intro, hDI, [], upd_same, rfl⟩, ?_⟩
    rintro i m H' ⟨rfl, hle, w', rfl, okw⟩
    by_cases hlt : i < xs'.length
    · have hx : xs'[i]? = some xs'[i] := List.getElem?_eq_getElem hlt
      obtain ⟨ρ2, ys, tg, hi1, hlen, trn⟩ := turn xs'[i] (List.getElem_mem hlt)
      refine .inr ⟨Y.go i w' okw.2.1 okw.1.I hlt, fun H2 => ∃ w2, w2.H = H2 ∧ Ok ((xs'.take (i + 1)).flatMap vals) w2, fun H2 ⟨w2, e2, q⟩ => ⟨xs'.length - (i + 1), by omega, rfl, hlt, w2, e2, q⟩, fun v H2 y => ?_⟩
      obtain ⟨w2, rfl, l2, ok2, r2⟩ := Y.yld i w' v H2 okw.2.1 okw.1.I y _ hx
      have o2 := okUp okw l2 ok2
      have sw2 := (s1.mono o2.1 ok2).wipe vs
      refine tg w0 w2 _ v sw2 r2 _ fun σ3 st3 sb => ⟨wipe_same sb hj, ?_⟩
      simp only [tYes, if_true]
      refine hi1 w0 w2 σ3 (st3 w2 sw2 (Same.refl _)) _ fun J1 w3 ys' l3 ok3 hY Y1 => ?_
      have hY : ys' = ys := hY
      subst hY
      have o3 := okUp o2 l3 ok3
      refine ⟨fun j k H4 => k = ys'.length - j ∧ j ≤ ys'.length ∧ ∃ w4, w4.H = H4 ∧ Same w3.I w4.I ∧ Ok ((xs'.take i).flatMap vals ++ (vals xs'[i]).take j) w4, ⟨ys'.length, by simp, Nat.zero_le _, w3, rfl, Same.refl _, by rw [List.take_zero, List.append_nil]; exact o3⟩, ?_⟩
      rintro j k H4 ⟨rfl, hjle, w4, rfl, sm4, o4⟩
      by_cases hjl : j < ys'.length
      · have hy : ys'[j]? = some ys'[j] := List.getElem?_eq_getElem hjl
        have hjk : j < (vals xs'[i]).length := by omega
        have hk : (vals xs'[i])[j]? = some (vals xs'[i])[j] := List.getElem?_eq_getElem hjk
        obtain ⟨ρ3, tg1, ev⟩ := trn j _ _ hy hk
        refine .inr ⟨Y1.go j w4 o4.2.1 sm4 hjl, fun H5 => ∃ w5, w5.H = H5 ∧ Same w3.I w5.I ∧ Ok ((xs'.take i).flatMap vals ++ (vals xs'[i]).take (j + 1)) w5, fun H5 ⟨w5, e5, sm5, q⟩ => ⟨ys'.length - (j + 1), by omega, rfl, hjl, w5, e5, sm5, q⟩, fun v1 H5 y1 => ?_⟩
        obtain ⟨w5, rfl, l5, ok5, r5⟩ := Y1.yld j w4 v1 H5 o4.2.1 sm4 y1 _ hy
        have o5 := okUp o4 l5 ok5
        have sm25 : Same w2.I w5.I := (l3.I.trans sm4).trans l5.I
        have s5 := (st3 w5 ((s1.mono o5.1 ok5).wipe vs) sm25).wipe vs1
        refine tg1 w0 w5 _ v1 s5 r5 _ fun σ6 st6 sb6 => ⟨wipe_same sb6 hj1, ?_⟩
        simp only [tYes, if_true]
        have s6 := st6 w5 s5 (Same.refl _)
        refine ev w0 w5 σ6 s6 _ fun vv w8 vd l8 ok8 r8 evd => ?_
        rw [show vd = _ from evd] at r8
        have o8 := okUp o5 l8 ok8
        obtain ⟨p1, p2, p3, us, p4, p5⟩ := o8
        have hlen8 : us.length < sizeLine := by
          rw [p5.length, List.length_append, List.length_take]
          have h3 : ((xs'.take i).flatMap vals).length + (vals xs'[i]).length ≤ (xs'.flatMap vals).length := by
            have e : (xs'.take (i + 1)).flatMap vals = (xs'.take i).flatMap vals ++ vals xs'[i] := by rw [take_succ_of hx, List.flatMap_append]; simp
            have e2 : xs'.flatMap vals = (xs'.take (i + 1)).flatMap vals ++ (xs'.drop (i + 1)).flatMap vals := by rw [← List.flatMap_append, List.take_append_drop]
            rw [e2, e, List.length_append, List.length_append]
            omega
          exact Nat.lt_of_le_of_lt (show _ ≤ 100000 by omega) (by decide)
        refine ⟨us, p4, hlen8, w8.put Dl (.lst (us ++ [vv])), rfl, (sm4.trans l5.I).trans l8.I, Wd.le_put p1 hD, Wd.put_ok p2 p3 (by rw [p1.tp]; exact tpD) True.intro, p3, _, upd_same, ?_⟩
        rw [take_succ_of hk, ← List.append_assoc]
        exact p5.snoc r8
      · have ej : j = ys'.length := by omega
        subst ej
        refine .inl ⟨Y1.stop w4 o4.2.1 sm4, w4, rfl, ?_⟩
        have e : (xs'.take (i + 1)).flatMap vals = (xs'.take i).flatMap vals ++ (vals xs'[i]).take ys'.length := by
          rw [take_succ_of hx, List.flatMap_append, hlen, List.take_length]
          simp
        rw [e]
        exact o4
    · have e : i = xs'.length := by omega
      subst e
      obtain ⟨o1, o2, o3, us, o4, o5⟩ := okw
      rw [List.take_length] at o5
      refine .inl ⟨Y.stop w' o2 o1.I, gq (.ref Dl) (w'.fix Dl (.lst us)) _ (Wd.le_fix (l1.trans o1) (l1.dom Dl hD) o3) (Wd.fix_ok o2 o3 o4 (by rw [o1.tp]; exact tpD)) ?_ rfl⟩
      exact ⟨Dl, us, rfl, .inl (.inl upd_same), o5.mono (same_new o3)⟩
end
/-! ### payments -/
def payQ (R : Rounds) : List (Str × Nat) := (namesQ R).flatMap fun s => (List.range R.length).map fun i => (s, i + 1)
def payK (p : Str × Nat) : List Key := [.inr p.1, .inl (p.2 : Int)]
theorem pay_mem {R : Rounds} {p : Str × Nat} : p ∈ payQ R ↔ p.1 ∈ namesQ R ∧ 1 ≤ p.2 ∧ p.2 ≤ R.length := by
  unfold payQ
  rw [List.mem_flatMap]
  constructor
  · rintro ⟨s, hs, h⟩
    obtain ⟨i, hi, rfl⟩ := List.mem_map.mp h
    have := List.mem_range.mp hi
    exact ⟨hs, by simp, by simp; omega⟩
  · rintro ⟨h1, h2, h3⟩
    exact ⟨p.1, h1, List.mem_map.mpr ⟨p.2 - 1, List.mem_range.mpr (by omega), Prod.ext rfl (by simp; omega)⟩⟩
theorem pay_len (R : Rounds) : (payQ R).length = (namesQ R).length * R.length := by
  unfold payQ
  generalize namesQ R = ns
  induction ns with
  | nil => simp
  | cons s ns ih => rw [List.flatMap_cons, List.length_append, ih, List.length_map, List.length_range, List.length_cons, Nat.add_mul]; omega
theorem payK_inj {p q : Str × Nat} (h : payK p = payK q) : p = q := by
  unfold payK at h
  injection h with h1 h2
  injection h2 with h2 _
  injection h1 with h1
  injection h2 with h2
  exact Prod.ext h1 (by omega)
section
variable {K : PySem.W.Frag} {lk : Bool} {ρ : List Sl} {ta tb te : TE} {a b q : Rat}
def sp_payments (K : PySem.W.Frag) : Sp := spP K false (fun R : Rounds => [.d (rsD R)]) Wf (fun R d => d = .lst ((payQ R).map fun p => .tk (payK p)))
/-- slots: 0 rounds, 1 name, 2 number -/
def t_payments (K : PySem.W.Frag) : TS := (tRet (tLc2 (iSeq K (tCall (sp_names K) [] E0 (tCons (tVar 0) tNil))) (gName 1) tYes (iRng2 (tCons (tC (.int 1)) (tCons (tOp (rAddU K) (tCB (rLenU K) (tCons (tVar 0) tNil)) (tC (.int 1))) tNil))) (gName 2) tYes (tTupU (tCons (tVar 1) (tCons (tVar 2) tNil))) [1, 2] [2]))
theorem it_range2N {lo n : Nat} (h1 : EvD K lk ta ρ (.int (lo : Int))) (h2 : EvD K lk tb ρ (.int (n : Int))) (hl : lo ≤ 1000) (hn : n ≤ 1000) : ItS K lk (iRng2 (tCons ta (tCons tb tNil))) ρ (fun ys => ys = rangeD (lo : Int) (n - lo)) := by
  have z := it_range2 (K := K) (lk := lk) (ρ := ρ) (lo := (lo : Int)) (n := (n : Int)) (ea_cons h1 (ea_cons h2 ea_nil)) (by omega) (by omega)
  rw [show ((n : Int) - (lo : Int)).toNat = n - lo by omega] at z
  exact z
theorem ev_lenR {R : Rounds} (h : EvD K lk te ρ (rsD R)) : EvD K lk (tCB (rLenU K) (tCons te tNil)) ρ (.int (R.length : Int)) := ev_is (eu_lenT h) (by rw [List.length_map])
theorem st_payments (lk : Bool) (R : Rounds) (w : Wf R) : StS K lk (t_payments K) (startS 3 [.d (rsD R)]) (Fn fun d => d = .lst ((payQ R).map fun p => .tk (payK p))) := by
  have hl := w.len
  have h40 := names_len w
  let vals : D → List D := fun x => match x with | .str s => (List.range R.length).map fun i => D.tk (payK (s, i + 1)) | _ => []
  have fm : ∀ ns : List Str, (ns.map D.str).flatMap vals = (ns.flatMap fun s => (List.range R.length).map fun i => (s, i + 1)).map fun p => .tk (payK p) := fun ns => by
    induction ns with
    | nil => rfl
    | cons s ns ih =>
      rw [List.map_cons, List.flatMap_cons, List.flatMap_cons, List.map_append, ih, List.map_map]
      rfl
  refine st_ret (P := fun d => d = .lst ((payQ R).map fun p => .tk (payK p))) (ev_is (ev_lc2 (js := [1]) (js1 := [2]) (is_lst (ev_names rfl (ev_v rfl) w.preR)) vals ?_ (by decide) (by decide) fun x hx => ?_) ?_) fun d e => e
  · rw [fm, List.length_map]
    show (payQ R).length ≤ _
    rw [pay_len]
    have : (namesQ R).length * R.length ≤ 40 * 20 := Nat.mul_le_mul h40 hl
    omega
  · obtain ⟨s, hs, rfl⟩ := List.mem_map.mp hx
    refine ⟨_, rangeD 1 R.length, tg_name, ?_, by rw [rangeD_len]; simp [vals], fun j y z hy hz => ?_⟩
    · have z := it_range2N (K := K) (lk := lk) (ρ := (wipeS (startS 3 [.d (rsD R)]) [1, 2]).set 1 (.dat (.str s))) (ta := tC (.int 1)) (tb := tOp (rAddU K) (tCB (rLenU K) (tCons (tVar 0) tNil)) (tC (.int 1))) (lo := 1) (n := R.length + 1) ev_int (ev_is (eu_add (ev_lenR (R := R) (ev_v rfl)) ev_int) rfl) (by omega) (by omega)
      exact z
    · obtain ⟨hj, rfl⟩ := get_range hy
      have hz : ((List.range R.length).map fun i => D.tk (payK (s, i + 1)))[j]? = some z := hz
      rw [List.getElem?_map, List.getElem?_range hj] at hz
      have hz : D.tk (payK (s, j + 1)) = z := Option.some.inj hz
      subst hz
      refine ⟨_, tg_name, eu_tupK (payK (s, j + 1)) (ea_cons (ev_v rfl) (ea_cons (ev_is (ev_v rfl) ?_) ea_nil)) (by show 2 ≤ 1000; decide)⟩
      show D.int _ = D.int _
      congr 1
      show (1 : Int) + (j : Nat) = ((j + 1 : Nat) : Int)
      omega
  · rw [fm]
    rfl
theorem run_payments : ∀ vs H Q E, sp_payments K vs H Q E → t_payments K { nx := fun _ H' => Q .non H', rt := Q } (L2.start ["rounds", "name", "number"] vs) H := sp_run 3 rfl fun lk _ R h => st_payments lk R h
/-! is_open -/
def openB (R : Rounds) (ps : List Str) (p : Str × Nat) (k : Nat) : Bool := match R[k]? with
  | some r => decide (p.1 ∈ canQ r) && (decide (ps.length ≤ k) || (decide (ps[k]? = some p.1) && decide ((ps.take (k + 1)).count p.1 = p.2)))
  | none => false
abbrev OpA : Type := Rounds × List Str × (Str × Nat) × Nat
def encOp (x : OpA) : List Ar := [.d (rsD x.1), .d (.tf x.2.1), .d (.tk (payK x.2.2.1)), .d (.int (x.2.2.2 : Int))]
def sp_is_open (K : PySem.W.Frag) : Sp := spP K false encOp (fun x => Wf x.1 ∧ x.2.2.2 < x.1.length) (fun x d => d = .bl (openB x.1 x.2.1 x.2.2.1 x.2.2.2))
/-- slots: 0 rounds, 1 payers, 2 payment, 3 place, 4 name, 5 number -/
def t_is_open (K : PySem.W.Frag) : TS := (tSeq (tAsg (tVar 2) (gTup K 2 (gCons (gName 4) (gCons (gName 5) gNil)))) (tSeq (tIfS (tNotInT K (tVar 4) (tCall (sp_who_can K) [] E0 (tCons (rIxU K (tVar 0) (tVar 3)) tNil))) (tRet (tC (.bl false))) tNext) (tRet (tOrV (tOp rGeI (tVar 3) (tCB (rLenU K) (tCons (tVar 1) tNil))) (tAndV (tOp (rEqU K) (rIxU K (tVar 1) (tVar 3)) (tVar 4)) (tOp (rEqU K) (tCount (tSl (slU K) (tVar 1) tNoPart (tPart (tOp (rAddU K) (tVar 3) (tC (.int 1))))) (tCons (tVar 4) tNil)) (tVar 5)))))))
theorem at_row {R : Rounds} {k : Nat} {r : Row} (h : R[k]? = some r) : atI (R.map rowD) (k : Int) = some (rowD r) := atI_nat (by rw [List.getElem?_map, h]; rfl)
theorem ev_canQ {sp : Sp} (hsp : sp = sp_who_can K) {r : Row} (h : EvD K lk te ρ (rowD r)) (hl : r.length ≤ 8) : EvD K lk (tCall sp [] E0 (tCons te tNil)) ρ (.lst ((canQ r).map D.str)) := by
  subst hsp
  exact ev_call r (ea_cons h ea_nil) hl
theorem ev_tfix {ps : List Str} {k : Nat} {s : Str} (ha : EvD K lk ta ρ (.tf ps)) (hb : EvD K lk tb ρ (.int (k : Int))) (h : ps[k]? = some s) : EvD K lk (rIxU K ta tb) ρ (.str s) := eu_ixT (ev_tf ha) hb (atI_nat (by rw [List.getElem?_map, h]; rfl))
theorem st_is_open (lk : Bool) (x : OpA) (h : Wf x.1 ∧ x.2.2.2 < x.1.length) : StS K lk (t_is_open K) (startS 6 (encOp x)) (Fn fun d => d = .bl (openB x.1 x.2.1 x.2.2.1 x.2.2.2)) := by
  obtain ⟨R, ps, ⟨s, n⟩, k⟩ := x
  obtain ⟨w, hk⟩ := h
  dsimp only at w hk ⊢
  have hr : R[k]? = some R[k] := List.getElem?_eq_getElem hk
  have wr := w.rows _ (List.getElem_mem hk)
  refine st_letG (js := [4, 5]) (P := fun d => d = .tk (payK (s, n))) (ev_v rfl) fun d e => ?_
  subst e
  refine ⟨_, tg_tk2, ?_⟩
  refine st_ifq (et_notinS (s := s) (xs := canQ R[k]) (ev_v rfl) (ev_canQ rfl (eu_ixT (ev_v rfl) (ev_v rfl) (at_row hr)) wr.len)) (fun hb => ?_) fun hb => st_nextq ?_
  · refine st_retq ev_bl fun d e => ?_
    have hb : s ∉ canQ R[k] := by simpa using hb
    show d = _
    rw [e]
    unfold openB
    rw [hr]
    simp [hb]
  · have hb : s ∈ canQ R[k] := by simpa using hb
    have eo : openB R ps (s, n) k = (decide (ps.length ≤ k) || (decide (ps[k]? = some s) && decide ((ps.take (k + 1)).count s = n))) := by
      unfold openB
      rw [hr]
      simp [hb]
    rw [eo]
    refine st_ret (ev_orV (a := decide (ps.length ≤ k)) (ev_is (ev_ge (ev_v rfl) (ev_is (eu_lenT (ev_tf (ev_v rfl))) (by rw [List.length_map]))) (by simp)) fun hp => ?_) fun d e => e
    have hp : k < ps.length := by simpa using hp
    have hpk : ps[k]? = some ps[k] := List.getElem?_eq_getElem hp
    refine ev_andV (a := decide (ps[k]? = some s)) (ev_is (eu_eqS (ev_tfix (ev_v rfl) (ev_v rfl) hpk) (ev_v rfl)) (by rw [hpk]; simp)) fun _ => ?_
    refine ev_is (eu_eqI (ev_count (i := 0) (j := 0) (ps := ps) (s := s) (k := k) (ev_v rfl) (ev_v rfl) (ev_v rfl)) (ev_v rfl)) ?_
    congr 1
    rw [decide_eq_decide]
    show ((paidQ ps s (k + 1) : Nat) : Int) = (n : Int) ↔ _
    unfold paidQ
    omega
theorem run_is_open : ∀ vs H Q E, sp_is_open K vs H Q E → t_is_open K { nx := fun _ H' => Q .non H', rt := Q } (L2.start ["rounds", "payers", "payment", "place", "name", "number"] vs) H := sp_run 6 rfl fun lk _ x h => st_is_open lk x h
/-! reach -/
abbrev ReA : Type := Rounds × Str × Nat × Nat
def encRe (x : ReA) : List Ar := [.d (.tup ((dueRow x.1 x.2.1).map fD)), .d (.int (x.2.2.1 : Int)), .d (.int (x.2.2.2 : Int))]
def preRe (x : ReA) : Prop := Wf x.1 ∧ x.2.2.2 < x.1.length ∧ 1 ≤ x.2.2.1 ∧ x.2.2.1 ≤ 100
def aheadQ (R : Rounds) (s : Str) (n k : Nat) : Rat := dueQ R s k - ((n - 1 : Nat) : Rat)
def behindQ (R : Rounds) (s : Str) (n k : Nat) : Rat := (n : Rat) - dueQ R s (k + 1)
def sp_reach (K : PySem.W.Frag) : Sp := spP K false encRe preRe (fun x d => d = .tup [fD (aheadQ x.1 x.2.1 x.2.2.1 x.2.2.2), fD (behindQ x.1 x.2.1 x.2.2.1 x.2.2.2)])
/-- slots: 0 row, 1 number, 2 place, 3 before -/
def t_reach (K : PySem.W.Frag) : TS := (tSeq (tAsg (tIf (tTest (tOp rGtI (tVar 2) (tC (.int 0)))) (rIxU K (tVar 0) (tOp rSubI (tVar 2) (tC (.int 1)))) (tC (.ref (He.ga K "NOUGHT")))) (gName 3)) (tRet (tTupU (tCons (tCall (sp_minus K) [] E0 (tCons (tVar 3) (tCons (tCall (sp_whole K) [] E0 (tCons (tOp rSubI (tVar 1) (tC (.int 1))) tNil)) tNil))) (tCons (tCall (sp_minus K) [] E0 (tCons (tCall (sp_whole K) [] E0 (tCons (tVar 1) tNil)) (tCons (rIxU K (tVar 0) (tVar 2)) tNil))) tNil)))))
theorem nat_bq {n : Nat} (h : n ≤ 1000) : Bq 1000 (n : Rat) := ⟨by show ((((n : Nat) : Int) : Rat)).num.natAbs ≤ 1000; rw [Rat.num_intCast]; omega, by show ((((n : Nat) : Int) : Rat)).den ≤ 1000; rw [Rat.den_intCast]; omega⟩
theorem le900 : 2 * (2 ^ 880 * 1000) ≤ 2 ^ 900 := by
  have : (2 : Nat) ^ 900 = 2 ^ 880 * 2 ^ 20 := by rw [← Nat.pow_add]
  rw [this]
  have : (2 : Nat) ^ 20 = 1048576 := by decide
  generalize (2 : Nat) ^ 880 = x
  omega
theorem ahead_bq {R : Rounds} (w : Wf R) (s : Str) {n : Nat} (k : Nat) (h : n ≤ 100) : Bq (2 ^ 900) (aheadQ R s n k) := ((due_bq w s k).sub (nat_bq (n := n - 1) (by omega))).mono le900
theorem behind_bq {R : Rounds} (w : Wf R) (s : Str) {n : Nat} (k : Nat) (h : n ≤ 100) : Bq (2 ^ 900) (behindQ R s n k) := ((nat_bq (n := n) (by omega)).sub (due_bq w s (k + 1))).mono (by rw [Nat.mul_comm 1000]; exact le900)
theorem ev_wholeN {n : Nat} (h : EvD K lk te ρ (.int (n : Int))) : EvD K lk (tCall (sp_whole K) [] E0 (tCons te tNil)) ρ (fD (n : Rat)) := ev_call (n : Int) (ea_cons h ea_nil) True.intro
theorem ev_minus {tx ty : TE} {a b : Rat} (ha : EvD K lk tx ρ (fD a)) (hb : EvD K lk ty ρ (fD b)) (sa : Small a) (sb : Small b) : EvD K lk (tCall (sp_minus K) [] E0 (tCons tx (tCons ty tNil))) ρ (fD (a - b)) := ev_call ((a, b) : Q2) (ea_cons ha (ea_cons hb ea_nil)) ⟨sa, sb⟩
theorem nat_small {n : Nat} (h : n ≤ 1000) : Small (n : Rat) := (nat_bq h).small (by decide)
theorem st_reach (hn : NoughtOk K) (lk : Bool) (x : ReA) (h : preRe x) : StS K lk (t_reach K) (startS 4 (encRe x)) (Fn fun d => d = .tup [fD (aheadQ x.1 x.2.1 x.2.2.1 x.2.2.2), fD (behindQ x.1 x.2.1 x.2.2.1 x.2.2.2)]) := by
  obtain ⟨R, s, n, k⟩ := x
  obtain ⟨w, hk, h1, h2⟩ := h
  dsimp only at w hk h1 h2 ⊢
  refine st_letD (d := fD (dueQ R s k)) (ev_if (b := decide (0 < k)) (eb_is (et_test (ev_gt (ev_v rfl) ev_int)) (by simp)) (fun hb => ?_) fun hb => ?_) ?_
  · have hb : 0 < k := by simpa using hb
    obtain ⟨j, rfl⟩ : ∃ j, k = j + 1 := ⟨k - 1, by omega⟩
    exact eu_ixT (ev_v rfl) (ev_is (ev_sub (ev_v rfl) ev_int) (by congr 1; show ((j + 1 : Nat) : Int) - 1 = (j : Int); omega)) (at_due (R := R) (s := s) (k := j) (by omega))
  · have hb : k = 0 := by simpa using hb
    subst hb
    exact ev_nought hn
  · refine st_ret (eu_tup (ds := [fD (aheadQ R s n k), fD (behindQ R s n k)]) (ea_cons (ev_minus (ev_v rfl) (ev_wholeN (n := n - 1) (ev_is (ev_sub (ev_v rfl) ev_int) (by congr 1; show ((n : Nat) : Int) - 1 = ((n - 1 : Nat) : Int); omega))) (due_small w s k) (nat_small (by omega))) (ea_cons (ev_minus (ev_wholeN (ev_v rfl)) (eu_ixT (ev_v rfl) (ev_v rfl) (at_due hk)) (nat_small (by omega)) (due_small w s _)) ea_nil))) fun d e => e
theorem run_reach (hn : NoughtOk K) : ∀ vs H Q E, sp_reach K vs H Q E → t_reach K { nx := fun _ H' => Q .non H', rt := Q } (L2.start ["row", "number", "place", "before"] vs) H := sp_run 4 rfl fun lk _ x h => st_reach hn lk x h
/-! is_held -/
abbrev HeA : Type := ReA × Rat
def encHe (x : HeA) : List Ar := [.d (.tup ((dueRow x.1.1 x.1.2.1).map fD)), .d (fD x.2), .d (.int (x.1.2.2.1 : Int)), .d (.int (x.1.2.2.2 : Int))]
def heldB (R : Rounds) (b : Rat) (p : Str × Nat) (k : Nat) : Bool := !(decide (b < aheadQ R p.1 p.2 k) || decide (b < behindQ R p.1 p.2 k))
def sp_is_held (K : PySem.W.Frag) : Sp := spP K false encHe (fun x => preRe x.1 ∧ Small x.2) (fun x d => d = .bl (heldB x.1.1 x.2 (x.1.2.1, x.1.2.2.1) x.1.2.2.2))
/-- slots: 0 row, 1 bound, 2 number, 3 place, 4 gap -/
def t_is_held (K : PySem.W.Frag) : TS := (tRet (tNotV (tCB (rAny K) (tCons (tLc (iSeq K (tCall (sp_reach K) [] E0 (tCons (tVar 0) (tCons (tVar 2) (tCons (tVar 3) tNil))))) (gName 4) tYes (tCall (sp_is_less K) [] E0 (tCons (tVar 1) (tCons (tVar 4) tNil))) [4]) tNil))))
/-- two things gone through -/
theorem ev_lc_two {i : Nat} {x y u v : D} (h : EvD K lk ta ρ (.tup [x, y])) (hx : EvD K lk te ((wipeS ρ [i]).set i (.dat x)) u) (hy : EvD K lk te ((wipeS ρ [i]).set i (.dat y)) v) : EvD K lk (tLc (iSeq K ta) (gName i) tYes te [i]) ρ (.lst [u, v]) := by
  refine ev_lc (js := [i]) (is_tup h) (fun _ k ys => ys = [u, v].take k) (fun _ _ => rfl) (fun xs e => by rw [show xs = _ from e]; show 2 ≤ 10000000; decide) (fun j hj => hj) (fun xs k z ys e hz ha => ?_) fun xs ys e ha => ?_
  · rw [show xs = _ from e] at hz
    match k, hz with
    | 0, hz => cases hz; exact ⟨_, _, tg_name, et_yes, (fun z => Bool.noConfusion z), fun _ => hx.imp fun d ed => by rw [ha, show d = _ from ed]; rfl⟩
    | 1, hz => cases hz; exact ⟨_, _, tg_name, et_yes, (fun z => Bool.noConfusion z), fun _ => hy.imp fun d ed => by rw [ha, show d = _ from ed]; rfl⟩
    | k + 2, hz => simp at hz
  · rw [show xs = _ from e] at ha
    rw [ha]
    rfl
theorem ev_lessV {tx ty : TE} {a b : Rat} (ha : EvD K lk tx ρ (fD a)) (hb : EvD K lk ty ρ (fD b)) (sa : Small a) (sb : Small b) : EvD K lk (tCall (sp_is_less K) [] E0 (tCons tx (tCons ty tNil))) ρ (.bl (decide (a < b))) := ev_call ((a, b) : Q2) (ea_cons ha (ea_cons hb ea_nil)) ⟨sa, sb⟩
theorem st_is_held (lk : Bool) (x : HeA) (h : preRe x.1 ∧ Small x.2) : StS K lk (t_is_held K) (startS 5 (encHe x)) (Fn fun d => d = .bl (heldB x.1.1 x.2 (x.1.2.1, x.1.2.2.1) x.1.2.2.2)) := by
  obtain ⟨⟨R, s, n, k⟩, b⟩ := x
  obtain ⟨pre, sb⟩ := h
  obtain ⟨w, hk, h1, h2⟩ := id pre
  dsimp only at w hk h1 h2 pre sb ⊢
  refine st_ret (ev_is (ev_notV (eu_any (bs := [decide (b < aheadQ R s n k), decide (b < behindQ R s n k)]) (ev_lc_two (ev_call ((R, s, n, k) : ReA) (ea_cons (ev_v rfl) (ea_cons (ev_v rfl) (ea_cons (ev_v rfl) ea_nil))) pre) (ev_lessV (ev_v rfl) (ev_v rfl) sb (bq_small (ahead_bq w s k h2))) (ev_lessV (ev_v rfl) (ev_v rfl) sb (bq_small (behind_bq w s k h2)))))) ?_) fun d e => e
  show D.bl (!([decide (b < aheadQ R s n k), decide (b < behindQ R s n k)].any id)) = _
  unfold heldB
  simp
theorem run_is_held : ∀ vs H Q E, sp_is_held K vs H Q E → t_is_held K { nx := fun _ H' => Q .non H', rt := Q } (L2.start ["row", "bound", "number", "place", "gap"] vs) H := sp_run 5 rfl fun lk _ x h => st_is_held lk x h
end
end RF

set_option Elab.async false
set_option linter.all false
set_option maxRecDepth 100000
set_option maxHeartbeats 4000000
set_option autoImplicit false
namespace RF
open PySem L2
/-! ### dict(pairs) -/
def rDictP (K : PySem.W.Frag) : List V → Hp → VK → Prop := fun xs H Q => ∃ (a : Addr) (ps : List Addr) (kvs : List (Key × V)), xs = [.ref a] ∧ SqL K H a (ps.map V.ref) ∧ Paired (fun p kv => SqT K H p [kV kv.1, kv.2]) ps kvs ∧ ∀ p, H p = none → Q (.ref p) (upd H p (.dK (mergeK [] kvs)))
theorem cu_dictP {X : Cx} (hc : X.calm = true) : CallR X (.type "dict") (rDictP X.K) := call_dictP hc
def rDictU (K : PySem.W.Frag) : List V → Hp → VK → Prop := cOr (rDictP K) (rDictPT K)
theorem cu_dict {X : Cx} {k : Nat} (hr : Room k X.A) (hc : X.calm = true) : CallR X (.type "dict") (rDictU X.K) := cr_or (cu_dictP hc) (call_dictPT hr hc)
theorem mergeK_new : ∀ (kvs acc : List (Key × V)), ((acc ++ kvs).map (·.1)).Nodup → mergeK acc kvs = acc ++ kvs
  | [], acc, _ => by rw [List.append_nil]; rfl
  | (k, v) :: r, acc, h => by
    have e : putK acc k v = acc ++ [(k, v)] := by
      unfold putK
      rw [if_neg]
      intro z
      obtain ⟨p, hp, e⟩ := List.any_eq_true.mp z
      have e : p.1 = k := of_decide_eq_true e
      rw [List.map_append, List.nodup_append] at h
      exact h.2.2 p.1 (List.mem_map.mpr ⟨p, hp, rfl⟩) k (by simp) e
    show mergeK (putK acc k v) r = _
    rw [e, mergeK_new r (acc ++ [(k, v)]) (by rw [List.append_assoc]; exact h), List.append_assoc]
    rfl
section
variable {K : PySem.W.Frag} {lk : Bool} {w0 w w' w1 : Wd} {μ μ' : Mu} {L L' : Addr → Prop} {σ σ' : St} {ρ ρ' : List Sl} {te ta tb : TE} {tt tu : TT} {t u : TS} {p : PoX} {P : D → Prop} {X : D → Mu → Prop} {d : D} {g : TG} {wi : TI}
theorem pairs_of {I : Hp} : ∀ {kvs : List (Key × D)} {vs : List V}, RpL K I (kvs.map fun p => .tup [kD p.1, p.2]) vs → ∃ (ps : List Addr) (es : List (Key × V)), vs = ps.map V.ref ∧ Paired (fun p kv => SqT K I p [kV kv.1, kv.2]) ps es ∧ RpK K I kvs es
  | [], _, r => ⟨[], [], r, .nil, rfl⟩
  | (k, d) :: kvs, _, ⟨x, t, e, r, q⟩ => by
    obtain ⟨ps, es, e1, e2, e3⟩ := pairs_of q
    obtain ⟨a, xs, ea, sq, x1, r1, f1, q1, x2, r2, f2, q2, f3⟩ := r
    have f3 : r2 = [] := f3
    subst f1 f2 f3
    rw [kD_inj (J := I) q1] at sq
    exact ⟨a :: ps, (k, x2) :: es, by rw [e, ea, e1]; rfl, .cons sq e2, x2, es, rfl, q2, e3⟩
theorem paired_H {I H : Hp} (h : Same I H) {ps : List Addr} {es : List (Key × V)} (p : Paired (fun p kv => SqT K I p [kV kv.1, kv.2]) ps es) : Paired (fun p kv => SqT K H p [kV kv.1, kv.2]) ps es := Paired.mapP p fun a b r => sqT_keeps (.of_same h) r
theorem rc_dictP {kvs : List (Key × D)} (hn : (kvs.map (·.1)).Nodup) (hl : kvs.length ≤ 100000) : RcS K lk (rDictP K) [.d (.lst (kvs.map fun p => .tup [kD p.1, p.2]))] (fun d => d = .dk kvs) := fun w vs ok _ r Q g => by
  obtain ⟨v, e, r⟩ := ars_one r
  obtain ⟨a, us, e2, sq, r2⟩ := r
  obtain ⟨ps, es, e3, pr, rk⟩ := pairs_of r2
  subst e e2 e3
  refine ⟨a, ps, es, rfl, sqLH ok sq, paired_H ok.sub pr, fun q hq => ?_⟩
  rw [mergeK_new es [] (by rw [List.nil_append, rk.keys]; exact hn), List.nil_append]
  exact g.new (d := .dk kvs) ok hq True.intro ⟨q, es, rfl, .inl upd_same, rk.keeps (.of_same (same_new (notI ok hq)))⟩ rfl
theorem eu_dict {kvs : List (Key × D)} (h : EvD K lk ta ρ (.lst (kvs.map fun p => .tup [kD p.1, p.2]))) (hn : (kvs.map (·.1)).Nodup) (hl : kvs.length ≤ 100000) : EvD K lk (tCB (rDictU K) (tCons ta tNil)) ρ (.dk kvs) := ev_cb1 (ea_cons h ea_nil) (rcl (rc_dictP hn hl))
/-! ### {k: [] for .. in ..}: lists that may be changed, in a dict that is held fast -/
def Mu.many (μ : Mu) (as : List Addr) (m : MO) : Mu := fun a => if a ∈ as then some m else μ a
theorem Sx.same {μ2 : Mu} (h : Sx K lk L w0 w σ ρ μ) (e : ∀ a, μ2 a = μ a) : Sx K lk L w0 w σ ρ μ2 := by
  have : μ2 = μ := funext e
  rw [this]
  exact h
def mrefs (prs : List (Key × Addr)) : List (Key × D) := prs.map fun p => (p.1, .mref p.2)
theorem xdcL {tk : TE} {js vs : List Nat} {xs : List D} {ks : List Key} (hi : ItS K lk wi ρ (fun ys => ys = xs)) (hlen : ks.length = xs.length) (nd : ks.Nodup) (hl : xs.length ≤ 1000) (hj : ∀ j ∈ js, j ∈ vs)
    (turn : ∀ (i : Nat) (x : D) (k : Key), xs[i]? = some x → ks[i]? = some k → ∃ ρ2, TgS K lk g js x (wipeS ρ vs) ρ2 ∧ EvD K lk tk ρ2 (kD k)) :
    EX K lk L (eFz (tDcU wi g tYes tk (tLst tNil) vs)) ρ μ (fun d μ' => ∃ prs : List (Key × Addr), prs.map (·.1) = ks ∧ (prs.map (·.2)).Nodup ∧ (∀ a ∈ prs.map (·.2), μ a = none) ∧ d = .fk (mrefs prs) ∧ μ' = μ.many (prs.map (·.2)) (.lst [])) := fun w0 w σ s Q gq => ⟨true, hi w w σ s.sr _ fun J w1 xs' l1 ok1 hX Y Dl hD => by
    have hX : xs' = xs := hX
    subst hX
    have s1 := (s.mono l1 ok1).rebase
    have bk : w0.lex L (w0.up w1) := up_lex (s.mono l1 ok1).le ok1
    have hDm : μ Dl = none := s1.notfree hD
    refine ⟨fun i m H' => m = xs'.length - i ∧ i ≤ xs'.length ∧ ∃ w' prs, w'.H = H' ∧ prs.map (·.1) = ks.take i ∧ (prs.map (·.2)).Nodup ∧ Dl ∉ prs.map (·.2) ∧ (∀ a ∈ prs.map (·.2), μ a = none) ∧ Sx K lk L (w0.up w1) w' σ ρ ((μ.many (prs.map (·.2)) (.lst [])).put Dl (.dk (mrefs prs))),
      ⟨xs'.length, by simp, Nat.zero_le _, w1.put Dl (.dK []), [], rfl, rfl, .nil, (by simp), (fun _ h => nomatch h), ?_⟩, ?_⟩
    · refine (s1.fresh hD (o := .dK []) True.intro (m := .dk []) ⟨[], upd_same, rfl⟩).same fun a => ?_
      by_cases z : a = Dl
      · subst z; rw [Mu.put_same, Mu.put_same]; rfl
      · rw [Mu.put_ne z, Mu.put_ne z]; exact if_neg (by simp)
    rintro i m H' ⟨rfl, hle, w', prs, rfl, hks, hnd, hDa, hfr, s'⟩
    have sm : Same w1.I w'.I := s'.le.I
    have mD : ((μ.many (prs.map (·.2)) (.lst [])).put Dl (.dk (mrefs prs))) Dl = some (.dk (mrefs prs)) := Mu.put_same _ _ _
    have hpl : prs.length = i := by
      have := congrArg List.length hks
      rw [List.length_map, List.length_take] at this
      omega
    by_cases hlt : i < xs'.length
    · have hx : xs'[i]? = some xs'[i] := List.getElem?_eq_getElem hlt
      have hki : i < ks.length := by omega
      have hk : ks[i]? = some ks[i] := List.getElem?_eq_getElem hki
      obtain ⟨ρ2, tg, ek⟩ := turn i _ _ hx hk
      refine .inr ⟨Y.go i w' s'.ok sm hlt, fun H2 => ∃ w2 prs2, w2.H = H2 ∧ prs2.map (·.1) = ks.take (i + 1) ∧ (prs2.map (·.2)).Nodup ∧ Dl ∉ prs2.map (·.2) ∧ (∀ a ∈ prs2.map (·.2), μ a = none) ∧ Sx K lk L (w0.up w1) w2 σ ρ ((μ.many (prs2.map (·.2)) (.lst [])).put Dl (.dk (mrefs prs2))), fun H2 ⟨w2, as2, e2, q⟩ => ⟨xs'.length - (i + 1), by omega, rfl, hlt, w2, as2, e2, q⟩, fun v H2 y => ?_⟩
      obtain ⟨w2, rfl, l2, ok2, r2⟩ := Y.yld i w' v H2 s'.ok sm y _ hx
      have s2 := s'.mono l2 ok2
      have sw2 := s2.sr.wipe vs
      refine tg w2 w2 _ v sw2 r2 _ fun σ3 st3 sb => ⟨wipe_same sb hj, ?_⟩
      simp only [tYes, if_true]
      have s3 := st3 w2 sw2 (Same.refl _)
      refine ek w2 w2 σ3 s3 _ fun kv w4 d4 l4 ok4 r4 e4 => ?_
      rw [show d4 = _ from e4] at r4
      have s4 := s2.mono l4 ok4
      refine ⟨by show 0 ≤ sizeLine; decide, fun b hb => ?_⟩
      have nb := s4.notfree hb
      have hbD : b ≠ Dl := fun z => by rw [z, mD] at nb; cases nb
      rw [Mu.put_ne hbD] at nb
      have hba : b ∉ prs.map (·.2) := fun z => by rw [show μ.many (prs.map (·.2)) (.lst []) b = some (.lst []) from if_pos z] at nb; cases nb
      have hbm : μ b = none := by rw [← nb]; exact (if_neg hba).symm
      have s5 := s4.fresh hb (o := .lst []) True.intro (m := .lst []) ⟨[], upd_same, rfl⟩
      have m5 : (((μ.many (prs.map (·.2)) (.lst [])).put Dl (.dk (mrefs prs))).put b (.lst [])) Dl = some (.dk (mrefs prs)) := by rw [Mu.put_ne fun z => hbD z.symm]; exact mD
      obtain ⟨hI5, ht5, es, hH5, r5⟩ := s5.mu Dl _ m5
      have hzl : (mrefs prs).length = i := by rw [mrefs, List.length_map]; exact hpl
      have r5l := r5.length
      refine ⟨_, .inl ⟨es, ks[i], hH5, kD_inj (J := w4.I) r4, by rw [r5l, hzl]; exact Nat.lt_of_lt_of_le (Nat.lt_of_lt_of_le hlt hl) (by decide), rfl⟩, (w4.put b (.lst [])).put Dl (.dK (putK es ks[i] (.ref b))), prs ++ [(ks[i], b)], rfl, ?_, ?_, ?_, ?_, ?_⟩
      · rw [List.map_append, hks, take_succ_of hk]
        rfl
      · rw [List.map_append, List.nodup_append]
        exact ⟨hnd, by simp, fun x hx y hy e => hba (by rw [← show y = b by simpa using hy, ← e]; exact hx)⟩
      · intro z
        rw [List.map_append] at z
        rcases List.mem_append.mp z with q | q
        · exact hDa q
        · exact hbD (show Dl = b by simpa using q).symm
      · intro a ha
        rw [List.map_append] at ha
        rcases List.mem_append.mp ha with q | q
        · exact hfr a q
        · rw [show a = b by simpa using q]; exact hbm
      · have s6 := s5.put m5 (o := .dK (putK es ks[i] (.ref b))) True.intro (m' := .dk (putD (mrefs prs) ks[i] (.mref b))) ⟨_, upd_same, r5.put (d := .mref b) rfl⟩
        refine s6.same fun a => ?_
        have en : putD (mrefs prs) ks[i] (.mref b) = mrefs (prs ++ [(ks[i], b)]) := by
          rw [putD_new]
          · unfold mrefs; rw [List.map_append]; rfl
          · unfold mrefs
            rw [List.map_map]
            intro z
            have e : prs.map ((fun x : Key × D => x.1) ∘ fun p => (p.1, D.mref p.2)) = prs.map (·.1) := rfl
            rw [e, hks] at z
            exact not_mem_take nd hk z
        by_cases z : a = Dl
        · subst z; rw [Mu.put_same, Mu.put_same, en]
        · rw [Mu.put_ne z, Mu.put_ne z]
          by_cases z2 : a = b
          · subst z2
            rw [Mu.put_same]
            exact if_pos (by simp)
          · rw [Mu.put_ne z2, Mu.put_ne z]
            unfold Mu.many
            by_cases z3 : a ∈ prs.map (·.2)
            · rw [if_pos z3, if_pos (by rw [List.map_append]; exact List.mem_append_left _ z3)]
            · rw [if_neg z3, if_neg]
              rw [List.map_append]
              intro q
              rcases List.mem_append.mp q with q | q
              · exact z3 q
              · exact z2 (by simpa using q)
    · have e : i = xs'.length := by omega
      subst e
      obtain ⟨hI', ht', es, hH', r'⟩ := s'.mu Dl _ mD
      have nl : ¬ L Dl ∨ L Dl := (Classical.em (L Dl)).symm
      refine .inl ⟨Y.stop w' s'.ok sm, .inr ⟨Dl, .dK es, rfl, hH', True.intro, fun od => ?_⟩⟩
      have hks' : prs.map (·.1) = ks := by rw [hks, ← hlen, List.take_length]
      have hDL : ¬ L Dl ∨ True := .inr trivial
      have s7 : Sx K lk L (w0.up w1) (w'.fz Dl (.frz od (.dK es))) σ ρ (((μ.many (prs.map (·.2)) (.lst [])).put Dl (.dk (mrefs prs))).del Dl) := s'.fz' (od := od) (o := .dK es) hH' mD True.intro (by
        show (w0.up w1).H Dl = none
        rw [Wd.up_none (notI ok1 hD)]
        exact s.le.dom Dl (l1.dom Dl hD))
      refine gq (.ref Dl) (w'.fz Dl (.frz od (.dK es))) (.fk (mrefs prs)) (μ.many (prs.map (·.2)) (.lst [])) ((s7.back bk).same fun a => ?_) ⟨Dl, od, es, rfl, upd_same, r'.keeps (.of_same (same_new hI'))⟩ ⟨prs, hks', hnd, hfr, rfl, rfl⟩
      unfold Mu.del
      by_cases z : a = Dl
      · subst z
        rw [if_pos rfl]
        show (if _ then _ else _) = _
        rw [if_neg hDa]
        exact hDm
      · rw [if_neg z, Mu.put_ne z]⟩
/-- lists in a dict that is held fast: nobody will change them -/
theorem sx_give {i : Nat} {prs : List (Key × Addr)} {xs : Addr → List D} (hi : ρ[i]? = some (.dat (.fk (mrefs prs)))) (hm : ∀ a ∈ prs.map (·.2), μ a = some (.lst (xs a))) (hl : ∀ a ∈ prs.map (·.2), ¬ L a)
    (k : StX K lk L t (ρ.set i (.dat (.fk (prs.map fun p => (p.1, .lst (xs p.2)))))) (fun a => if a ∈ prs.map (·.2) then none else μ a) p) : StX K lk L t ρ μ p := fun w0 w σ E s f => by
  let w2 : Wd := { w with I := fun a => if a ∈ prs.map (·.2) then w.H a else w.I a }
  have sm : Same w.I w2.I := fun a o e => by
    show (if _ then _ else _) = _
    by_cases z : a ∈ prs.map (·.2)
    · rw [if_pos z]; exact s.ok.sub _ _ e
    · rw [if_neg z]; exact e
  have I2 : ∀ a, a ∉ prs.map (·.2) → w2.I a = w.I a := fun a z => if_neg z
  have I2y : ∀ a, a ∈ prs.map (·.2) → w2.I a = w.H a := fun a z => if_pos z
  have ok2 : w2.Ok := by
    refine ⟨fun a o e => ?_, fun a e => ?_, fun _ => True.intro, fun a zs e => ?_⟩
    · by_cases z : a ∈ prs.map (·.2)
      · rw [I2y a z] at e; exact e
      · rw [I2 a z] at e; exact s.ok.sub _ _ e
    · have nz : a ∉ prs.map (·.2) := fun z => (s.mu a _ (hm a z)).2.1 e
      exact (s.ok.tape a e).mono sm (by rw [I2 a nz]; exact (s.ok.tape a e).1) rfl
    · by_cases z : a ∈ prs.map (·.2)
      · rw [I2y a z]; exact e
      · rw [I2 a z]; exact s.ok.tups a zs e
  have lx : w0.lex L w2 := ⟨s.le.tp, s.le.lk, s.le.I.trans sm, s.le.H, fun a e n => by
    have nz : a ∉ prs.map (·.2) := fun z => n ((s.own a _ (hm a z)).resolve_left (hl a z))
    rw [I2 a nz]
    exact s.le.fr a e n, s.le.dom⟩
  have s2 : Sx K lk L w0 w2 σ ρ (fun a => if a ∈ prs.map (·.2) then none else μ a) := by
    refine ⟨s.lk, lx, ok2, s.len, fun j t e => ?_, fun a m e => ?_, fun a m e => ?_⟩
    · obtain ⟨hos, q⟩ := s.sl j t e
      refine ⟨hos, ?_⟩
      cases t with
      | un => exact True.intro
      | dat d => obtain ⟨v, e, r⟩ := q; exact ⟨v, e, r.mono sm⟩
      | tape => exact q
      | lst xs => cases hos
      | dk xs => cases hos
      | dt xs => cases hos
    · by_cases z : a ∈ prs.map (·.2)
      · rw [if_pos z] at e; cases e
      · rw [if_neg z] at e
        obtain ⟨h1, h2, h3⟩ := s.mu a m e
        exact ⟨by rw [I2 a z]; exact h1, h2, h3.mono sm fun _ q => q⟩
    · by_cases z : a ∈ prs.map (·.2)
      · rw [if_pos z] at e; cases e
      · rw [if_neg z] at e; exact s.own a m e
  obtain ⟨_, v, ev, rv⟩ := s2.sl i _ hi
  have rv2 : Rp K w2.I (.fk (prs.map fun p => (p.1, .lst (xs p.2)))) v := by
    obtain ⟨a, o, es, e, hI, r⟩ := rv
    refine ⟨a, o, es, e, hI, ?_⟩
    have key : ∀ (ps : List (Key × Addr)) (es : List (Key × V)), (∀ a ∈ ps.map (·.2), a ∈ prs.map (·.2)) → RpK K w2.I (mrefs ps) es → RpK K w2.I (ps.map fun p => (p.1, .lst (xs p.2))) es := fun ps => by
      induction ps with
      | nil => exact fun es _ r => r
      | cons q ps ih =>
        rintro es hin ⟨v, t, e, r, z⟩
        refine ⟨v, t, e, ?_, ih t (fun a ha => hin a (by simp only [List.map_cons]; exact List.mem_cons_of_mem _ ha)) z⟩
        have hq := hin q.2 (by simp)
        obtain ⟨h1, h2, vs, hH, rl⟩ := s.mu q.2 _ (hm q.2 hq)
        rw [show v = .ref q.2 from r]
        exact ⟨q.2, vs, rfl, .inl (.inl (by rw [I2y _ hq]; exact hH)), rl.mono sm⟩
    exact key prs es (fun a h => h) r
  have z := s2.set i (d := .fk (prs.map fun p => (p.1, .lst (xs p.2)))) (v := v) rv2
  rw [set_same ev] at z
  exact k w0 w2 σ E z f
end
end RF

set_option Elab.async false
set_option linter.all false
set_option maxRecDepth 100000
set_option maxHeartbeats 4000000
set_option autoImplicit false
set_option exponentiation.threshold 6000
namespace RF
open PySem L2
/-! ### whole matchings -/
section
variable {κ τ : Type} [DecidableEq κ] [DecidableEq τ]
def Perfect (rows : List (κ × List τ)) : Prop := ∃ f : κ → τ, (∀ k ∈ rows.map (·.1), f k ∈ rowsF rows k) ∧ ∀ k ∈ rows.map (·.1), ∀ k' ∈ rows.map (·.1), f k = f k' → k = k'
theorem held_vals {held : List (τ × κ)} (nd : (held.map (·.1)).Nodup) (inj : ∀ t t' k, getD' held t = some k → getD' held t' = some k → t = t') : (held.map (·.2)).Nodup := by
  have key : ∀ i, ((held.take i).map (·.2)).Nodup := fun i => by
    induction i with
    | zero => exact .nil
    | succ i ih =>
      cases e : held[i]? with
      | none =>
        have : held.take (i + 1) = held.take i := by rw [List.take_add_one, e]; simp
        rw [this]; exact ih
      | some q =>
        rw [take_succ_of e, List.map_append, List.nodup_append]
        refine ⟨ih, by simp, fun a ha b hb z => ?_⟩
        have hb : b = q.2 := by simpa using hb
        exact val_new nd inj (t := q.1) (k := q.2) e (by rw [← hb, ← z]; exact ha)
  have := key held.length
  rw [List.take_length] at this
  exact this
theorem paired_perfect [Inhabited τ] {rows : List (κ × List τ)} {had : List (κ × τ)} (h : PairedOk rows had) (nd : (rows.map (·.1)).Nodup) : had.length = rows.length ↔ Perfect rows := by
  obtain ⟨held, m, hn, rfl⟩ := h
  rw [List.length_map]
  have vals := held_vals hn m.inj
  have mem : ∀ {k : κ}, (∃ t, getD' held t = some k) ↔ k ∈ held.map (·.2) := fun {k} => by
    constructor
    · rintro ⟨t, e⟩
      exact List.mem_map.mpr ⟨_, getD'_mem e, rfl⟩
    · intro h
      obtain ⟨q, hq, e⟩ := List.mem_map.mp h
      exact ⟨q.1, by rw [← e]; exact getD'_of_mem hn hq⟩
  have sub : ∀ k ∈ held.map (·.2), k ∈ rows.map (·.1) := fun k hk => by
    obtain ⟨t, e⟩ := mem.mpr hk
    exact m.key t k e
  constructor
  · intro e
    have all : ∀ k ∈ rows.map (·.1), ∃ t, getD' held t = some k := fun k hk => by
      apply Classical.byContradiction
      intro z
      have z : k ∉ held.map (·.2) := fun q => z (mem.mpr q)
      have := sub_len (xs := k :: held.map (·.2)) (ys := rows.map (·.1)) (by rw [List.nodup_cons]; exact ⟨z, vals⟩) fun x hx => by
        rcases List.mem_cons.mp hx with q | q
        · rw [q]; exact hk
        · exact sub x q
      simp only [List.length_cons, List.length_map] at this
      omega
    have ex : ∀ k : κ, ∃ t : τ, k ∈ rows.map (·.1) → getD' held t = some k := fun k => by
      by_cases hk : k ∈ rows.map (·.1)
      · obtain ⟨t, e⟩ := all k hk; exact ⟨t, fun _ => e⟩
      · exact ⟨default, fun z => absurd z hk⟩
    obtain ⟨f, hf⟩ := Classical.axiomOfChoice ex
    refine ⟨f, fun k hk => m.edge _ _ (hf k hk), fun k hk k' hk' e => ?_⟩
    have h1 := hf k hk
    have h2 := hf k' hk'
    rw [e, h2] at h1
    exact (Option.some.inj h1).symm
  · rintro ⟨f, h1, h2⟩
    have all : ∀ k ∈ rows.map (·.1), k ∈ held.map (·.2) := fun k hk => by
      rcases m.rest k hk with z | b
      · exact mem.mp z
      · apply Classical.byContradiction
        intro z
        exact m.hall (u := k) (fun t e => z (mem.mp ⟨t, e⟩)) b hk f h1 fun k hk k' hk' => h2 k hk k' hk'
    have l1 := sub_len vals sub
    have l2 := sub_len nd all
    simp only [List.length_map] at l1 l2
    omega
end
section
variable {K : PySem.W.Frag} {lk : Bool} {ρ : List Sl} {ta tb te : TE} {P Q : D → Prop}
theorem ev_cbS {f : List V → Hp → VK → Prop} {A : D → Prop} (h : EvS K lk ta ρ A) (i : ∀ x, A x → RcS K lk f [.d x] P) : EvS K lk (tCB f (tCons ta tNil)) ρ P := ev_cb (C := fun as => ∃ x, as = [.d x] ∧ A x) (ea_cons' h ea_nil fun d as a e => ⟨d, by rw [e], a⟩) fun as ⟨x, e, a⟩ => by rw [e]; exact i x a
section
variable {κ τ : Type} [DecidableEq κ] [DecidableEq τ] [Inhabited τ] (A : Dk κ) (B : Dk τ)
theorem Dk.rclen {kvs : List (κ × D)} : RcS K lk (rLenU K) [.d (A.dd kvs)] (fun d => d = .int (kvs.length : Int)) := rcr (rcr fun w vs ok _ r Q g => by
  obtain ⟨v, e, r⟩ := ars_one r
  obtain ⟨a, es, e2, rd, r2⟩ := A.rdd.mp r
  subst e e2
  refine A.lenH (rd_same ok.sub rd) ?_
  rw [A.len r2]
  exact g.here (d := .int _) ok rfl rfl)
theorem RcS.imp {f : List V → Hp → VK → Prop} {as : List Ar} {A B : D → Prop} (h : RcS K lk f as A) (i : ∀ d, A d → B d) : RcS K lk f as B := fun w vs ok l r Q g => h w vs ok l r Q (g.imp i)
theorem RvS.imp {f : R2} {x y : D} {A B : D → Prop} (h : RvS K lk f x y A) (i : ∀ d, A d → B d) : RvS K lk f x y B := fun w v u ok l r1 r2 Q g => h w v u ok l r1 r2 Q (g.imp i)
theorem rv_eqI {i j : Int} : RvS K lk (rEqU K) (.int i) (.int j) (fun d => d = .bl (decide (i = j))) := rvl fun w v u ok _ r1 r2 Q q => by
  obtain ⟨s1, s2⟩ := scal_of (x := .int i) (y := .int j) rfl r1 r2
  exact ⟨s1, by rw [s2]; exact q.here (d := .bl _) ok rfl rfl⟩
theorem RcS.w {f : List V → Hp → VK → Prop} {x y : D} (h : RcS K lk f [.d y] P) (hw : ∀ I v, Rp K I x v → Rp K I y v) : RcS K lk f [.d x] P := fun w vs ok l r Q g => h w vs ok l (by
  obtain ⟨v, e, r⟩ := ars_one r
  exact ⟨v, [], e, hw _ _ r, rfl⟩) Q g
open Classical in
/-- len(paired(rows)) == len(rows) -/
theorem ev_perfect {sp : Sp} (hsp : ∀ vs H Q E, sp_paired1 A B K vs H Q E → sp vs H Q E) {x : List (κ × List τ)} (pre : PrePaired x) (h : EvD K lk te ρ (A.fd (rowsL B x))) :
    EvD K lk (tOp (rEqU K) (tCB (rLenU K) (tCons (tCall sp [] E0 (tCons te tNil)) tNil)) (tCB (rLenU K) (tCons te tNil))) ρ (.bl (decide (Perfect x))) := by
  refine ev_op (A := fun d => ∃ n : Nat, d = .int (n : Int) ∧ (n = x.length ↔ Perfect x)) (B := fun d => d = .int (x.length : Int)) (ev_cbS (A := fun d => ∃ had, d = A.fd (hadL B had) ∧ PairedOk x had) (ev_callS hsp (fun h => Bool.noConfusion h) (ea_cons h ea_nil) fun as e => ⟨x, e, pre, fun d q => q⟩) fun d ⟨had, e, okp⟩ => ?_) (ev_is (A.elen (A.ev h)) (by rw [rowsL, List.length_map])) fun d1 d2 ⟨n, e1, hn⟩ e2 => ?_
  · subst e
    exact ((A.rclen.w fun I v r => A.fd_dd r).imp fun d ed => ⟨had.length, by rw [show d = _ from ed, hadL, List.length_map], paired_perfect okp pre.nd⟩)
  · subst e1 e2
    refine (rv_eqI).imp fun d ed => ?_
    show d = _
    rw [ed]
    congr 1
    rw [decide_eq_decide]
    rw [← hn]
    omega
end
end
/-! ### is_kept -/
instance : Inhabited Key := ⟨.inl 0⟩
instance : Inhabited Str := ⟨""⟩
def kI (a : Nat) : Key := .inl (a : Int)
def edgeB (R : Rounds) (ps : List Str) (b : Rat) (p : Str × Nat) (a : Nat) : Bool := openB R ps p a && heldB R b p a
def wantQ (R : Rounds) (b : Rat) (p : Str × Nat) : Bool := decide (b < dueQ R p.1 R.length - ((p.2 - 1 : Nat) : Rat))
def rowsA (R : Rounds) (ps : List Str) (b : Rat) : List (Key × List (List Key)) := (List.range R.length).map fun a => (kI a, ((payQ R).filter fun p => edgeB R ps b p a).map payK)
def wantB (R : Rounds) (ps : List Str) (b : Rat) : List (List Key × List Key) := ((payQ R).filter (wantQ R b)).map fun p => (payK p, ((List.range R.length).filter fun a => edgeB R ps b p a).map kI)
structure WfK (R : Rounds) : Prop where
  w : Wf R
  ne : R ≠ []
  few : (namesQ R).length * R.length ≤ 90
abbrev KeA : Type := Rounds × List Str × Rat
def encKe (x : KeA) : List Ar := [.d (rsD x.1), .d (.tf x.2.1), .d (fD x.2.2)]
def preKe (x : KeA) : Prop := WfK x.1 ∧ Small x.2.2
open Classical in
noncomputable def keptB (x : KeA) : Bool := decide (Perfect (rowsA x.1 x.2.1 x.2.2)) && decide (Perfect (wantB x.1 x.2.1 x.2.2))
def sp_is_kept (K : PySem.W.Frag) : Sp := spP K false encKe preKe (fun x d => d = .bl (keptB x))
/-- slots: 0 rounds, 1 payers, 2 bound, 3 known, 4 rows, 5 at, 6 wanted, 7 name, 8 number, 9 row, 10 places -/
def t_is_kept (K : PySem.W.Frag) : TS := (tSeq (tAsg (tCB (rDictU K) (tCons (tCall (sp_dues K) [] E0 (tCons (tVar 0) tNil)) tNil)) (gName 3)) (tSeq (tAsg (eFz (tDcU (iRng1 (tCons (tCB (rLenU K) (tCons (tVar 0) tNil)) tNil)) (gName 5) tYes (tVar 5) (tLst tNil) [5])) (gName 4)) (tSeq (tAsg (eOr tDNewK tDNewT) (gName 6)) (tSeq (tFor (iSeq K (tCall (sp_payments K) [] E0 (tCons (tVar 0) tNil))) (gTup K 2 (gCons (gName 7) (gCons (gName 8) gNil))) (tSeq (tAsg (rIxU K (tVar 3) (tVar 7)) (gName 9)) (tSeq (tAsg (tLst tNil) (gName 10)) (tSeq (tFor (iRng1 (tCons (tCB (rLenU K) (tCons (tVar 0) tNil)) tNil)) (gName 5) (tIfS (tAnd (tB (tCall (sp_is_open K) [] E0 (tCons (tVar 0) (tCons (tVar 1) (tCons (tTupU (tCons (tVar 7) (tCons (tVar 8) tNil))) (tCons (tVar 5) tNil)))))) (tB (tCall (sp_is_held K) [] E0 (tCons (tVar 9) (tCons (tVar 2) (tCons (tVar 8) (tCons (tVar 5) tNil))))))) (tSeq (tDrop (tBM K "list" rAppend (tVar 10) (tCons (tVar 5) tNil))) (tDrop (tBM K "list" rAppend (rIxU K (tVar 4) (tVar 5)) (tCons (tTupU (tCons (tVar 7) (tCons (tVar 8) tNil))) tNil)))) tNext)) (tIfS (tB (tCall (sp_is_less K) [] E0 (tCons (tVar 2) (tCons (tTupU (tCons (tOp rSubI (rIxU K (rIxU K (tVar 9) (tUn (rU fun i => .int (-i)) (tC (.int 1)))) (tC (.int 0))) (tOp (rMulU K) (tOp rSubI (tVar 8) (tC (.int 1))) (rIxU K (rIxU K (tVar 9) (tUn (rU fun i => .int (-i)) (tC (.int 1)))) (tC (.int 1))))) (tCons (rIxU K (rIxU K (tVar 9) (tUn (rU fun i => .int (-i)) (tC (.int 1)))) (tC (.int 1))) tNil))) tNil)))) (sPutU (tVar 6) (tTupU (tCons (tVar 7) (tCons (tVar 8) tNil))) (tVar 10)) tNext))))) (tFz (tRet (tAndV (tOp (rEqU K) (tCB (rLenU K) (tCons (tCall (sp_paired K) [] E0 (tCons (tVar 4) tNil)) tNil)) (tCB (rLenU K) (tCons (tVar 4) tNil))) (tOp (rEqU K) (tCB (rLenU K) (tCons (tCall (sp_paired K) [] E0 (tCons (tVar 6) tNil)) tNil)) (tCB (rLenU K) (tCons (tVar 6) tNil))))))))))
theorem key_inl {i j : Nat} (h : kI i = kI j) : i = j := by unfold kI at h; injection h with h; omega
theorem keys_nd (n : Nat) : ((List.range n).map kI).Nodup := by
  rw [List.nodup_iff_pairwise_ne, List.pairwise_map]
  exact List.Pairwise.imp (fun h e => h (key_inl e)) (List.nodup_iff_pairwise_ne.mp List.nodup_range)
theorem pay_nodup (R : Rounds) : (payQ R).Nodup := by
  unfold payQ
  have := names_nodup R
  revert this
  generalize namesQ R = ns
  intro hn
  induction ns with
  | nil => exact .nil
  | cons s ns ih =>
    rw [List.nodup_cons] at hn
    rw [List.flatMap_cons, List.nodup_append]
    refine ⟨?_, ih hn.2, fun a ha b hb e => ?_⟩
    · rw [List.nodup_iff_pairwise_ne, List.pairwise_map]
      exact List.Pairwise.imp (fun h e => h (by injection e with _ e; omega)) (List.nodup_iff_pairwise_ne.mp List.nodup_range)
    · obtain ⟨i, _, rfl⟩ := List.mem_map.mp ha
      obtain ⟨t, ht, hb⟩ := List.mem_flatMap.mp hb
      obtain ⟨j, _, rfl⟩ := List.mem_map.mp hb
      injection e with e1 _
      exact hn.1 (e1 ▸ ht)
theorem map_nodup {α β : Type} {f : α → β} (hf : ∀ a b, f a = f b → a = b) {l : List α} (h : l.Nodup) : (l.map f).Nodup := by
  rw [List.nodup_iff_pairwise_ne, List.pairwise_map]
  exact List.Pairwise.imp (fun h e => h (hf _ _ e)) (List.nodup_iff_pairwise_ne.mp h)
theorem rowsA_keys (R : Rounds) (ps : List Str) (b : Rat) : (rowsA R ps b).map (·.1) = (List.range R.length).map kI := by unfold rowsA; rw [List.map_map]; rfl
theorem wantB_keys (R : Rounds) (ps : List Str) (b : Rat) : (wantB R ps b).map (·.1) = ((payQ R).filter (wantQ R b)).map payK := by unfold wantB; rw [List.map_map]; rfl
theorem preA {R : Rounds} (w : WfK R) (ps : List Str) (b : Rat) : PrePaired (rowsA R ps b) := by
  have hl := w.w.len
  refine ⟨⟨(payQ R).map payK, ⟨fun p hp t ht => ?_, by rw [List.length_map, pay_len]; have := w.few; omega⟩, by rw [List.length_map, pay_len]; exact w.few⟩, by rw [rowsA_keys]; exact keys_nd _, by unfold rowsA; rw [List.length_map, List.length_range]; omega⟩
  unfold rowsA at hp
  obtain ⟨a, _, rfl⟩ := List.mem_map.mp hp
  obtain ⟨q, hq, rfl⟩ := List.mem_map.mp ht
  exact List.mem_map.mpr ⟨q, (List.mem_filter.mp hq).1, rfl⟩
theorem preB {R : Rounds} (w : WfK R) (ps : List Str) (b : Rat) : PrePaired (wantB R ps b) := by
  have hl := w.w.len
  refine ⟨⟨(List.range R.length).map kI, ⟨fun p hp t ht => ?_, by rw [List.length_map, List.length_range]; omega⟩, by rw [List.length_map, List.length_range]; omega⟩, by rw [wantB_keys]; exact map_nodup (fun _ _ => payK_inj) ((pay_nodup R).filter _), ?_⟩
  · unfold wantB at hp
    obtain ⟨a, _, rfl⟩ := List.mem_map.mp hp
    obtain ⟨q, hq, rfl⟩ := List.mem_map.mp ht
    exact List.mem_map.mpr ⟨q, (List.mem_filter.mp hq).1, rfl⟩
  · unfold wantB
    rw [List.length_map]
    have := List.length_filter_le (wantQ R b) (payQ R)
    rw [pay_len] at this
    have := w.few
    omega
theorem sub_nat_num (q : Rat) (m : Nat) : fD (q - (m : Rat)) = .tup [.int (q.num - (m : Int) * (q.den : Int)), .int (q.den : Int)] := by
  have e : q - (m : Rat) = mkRat (q.num - (m : Int) * (q.den : Int)) q.den := by
    rw [Rat.sub_def'']
    show mkRat (q.num * (((m : Int) : Rat).den : Int) - ((m : Int) : Rat).num * (q.den : Int)) (q.den * ((m : Int) : Rat).den) = _
    rw [Rat.den_intCast, Rat.num_intCast]
    simp
  have hg : (q.num - (m : Int) * (q.den : Int)).natAbs.gcd q.den = 1 := by
    have h1 : Int.gcd (q.num - (m : Int) * (q.den : Int)) (q.den : Int) = Int.gcd q.num (q.den : Int) := Int.gcd_sub_mul_right_left _ _ _
    have h2 : Int.gcd q.num (q.den : Int) = 1 := by
      have := q.reduced
      unfold Nat.Coprime at this
      unfold Int.gcd
      rw [Int.natAbs_natCast]
      exact this
    rw [h2] at h1
    unfold Int.gcd at h1
    rw [Int.natAbs_natCast] at h1
    exact h1
  obtain ⟨e1, e2⟩ := frac_mk (q.num - (m : Int) * (q.den : Int)) q.den q.den_nz
  unfold fD
  rw [e, e1, e2, hg]
  simp
section
variable {K : PySem.W.Frag} {lk : Bool} {ρ : List Sl} {ta tb te : TE}
theorem ads_of {n : Nat} : ∀ {prs : List (Key × Addr)}, prs.map (·.1) = (List.range n).map kI → ∃ ad : Nat → Addr, prs = (List.range n).map fun a => (kI a, ad a) := fun {prs} h => by
  have hl : prs.length = n := by
    have := congrArg List.length h
    simpa using this
  refine ⟨fun a => ((prs[a]?).map (·.2)).getD 0, List.ext_getElem? fun i => ?_⟩
  by_cases hi : i < n
  · have e1 : prs[i]? = some prs[i] := List.getElem?_eq_getElem (by omega)
    have e2 : (prs.map (·.1))[i]? = some (kI i) := by rw [h, List.getElem?_map, List.getElem?_range hi]; rfl
    rw [List.getElem?_map, e1] at e2
    rw [List.getElem?_map, List.getElem?_range hi, e1]
    have e2 : prs[i].1 = kI i := Option.some.inj e2
    show some prs[i] = some (_, ((prs[i]?).map (·.2)).getD 0)
    rw [e1, ← e2]
    rfl
  · rw [List.getElem?_eq_none (by omega), List.getElem?_eq_none (by simp; omega)]
theorem sx_appD {p : PoX} {μ : Mu} {L : Addr → Prop} {to : TE} {a : Addr} {xs : List D} {d : D} (ho : EvD K lk to ρ (.mref a)) (h0 : μ a = some (.lst xs)) (h : EvD K lk te ρ d) (hl : xs.length < 100000) (q : p.nx ρ (μ.put a (.lst (xs ++ [d])))) : StX K lk L (tDrop (tBM K "list" rAppend to (tCons te tNil))) ρ μ p :=
  sx_app ho h0 (ex h) fun d' μ' ⟨e, m⟩ => ⟨xs, by rw [m]; exact h0, hl, by rw [m, e]; exact q⟩
theorem sx_appq {p : PoX} {u : TS} {μ : Mu} {L : Addr → Prop} {to : TE} {a : Addr} {xs : List D} {d : D} (ho : EvD K lk to ρ (.mref a)) (h0 : μ a = some (.lst xs)) (h : EvD K lk te ρ d) (hl : xs.length < 100000) (q : StX K lk L u ρ (μ.put a (.lst (xs ++ [d]))) p) : StX K lk L (tSeq (tDrop (tBM K "list" rAppend to (tCons te tNil))) u) ρ μ p :=
  sx_seq (fun ρ' μ' => ρ' = ρ ∧ μ' = μ.put a (.lst (xs ++ [d]))) (sx_appD ho h0 h hl ⟨rfl, rfl⟩) fun ρ' μ' ⟨e, m⟩ => by rw [e, m]; exact q
theorem at_last {R : Rounds} {s : Str} (h : 0 < R.length) : atI ((dueRow R s).map fD) (-1) = some (fD (dueQ R s R.length)) := by
  have e : ((dueRow R s).map fD).length = R.length := by rw [List.length_map, due_row_len]
  have h1 : ((dueRow R s).map fD)[R.length - 1]? = some (fD (dueQ R s R.length)) := by
    rw [List.getElem?_map, due_row_get (by omega)]
    rw [show R.length - 1 + 1 = R.length by omega]
    rfl
  have e2 : ixN R.length (-1) = some (R.length - 1) := by
    unfold ixN
    rw [if_neg (by decide), if_pos (by omega)]
    congr 1
    omega
  unfold atI
  rw [e, e2]
  exact h1
theorem tgx_tk2 {L : Addr → Prop} {i j : Nat} {a b : Key} : TgX K lk L (gTup K 2 (gCons (gName i) (gCons (gName j) gNil))) (.tk [a, b]) ρ ((ρ.set i (.dat (kD a))).set j (.dat (kD b))) := tgx tg_tk2 fun h => own_set (own_set h rfl) rfl
def payD (p : Str × Nat) : D := .tk (payK p)
/-- what the rows and the wanted hold when these payments are gone through -/
structure IvK (R : Rounds) (ps : List Str) (b : Rat) (ad : Nat → Addr) (wa : Addr) (done : List (Str × Nat)) (μ : Mu) : Prop where
  rows : ∀ a, a < R.length → μ (ad a) = some (.lst ((done.filter fun p => edgeB R ps b p a).map payD))
  want : μ wa = some (.dt ((done.filter (wantQ R b)).map fun p => (payK p, .lst (((List.range R.length).filter fun a => edgeB R ps b p a).map fun (a : Nat) => .int (a : Int)))))
/-- .. and of one more the rounds below j -/
structure IvJ (R : Rounds) (ps : List Str) (b : Rat) (ad : Nat → Addr) (wa pl : Addr) (done : List (Str × Nat)) (p : Str × Nat) (j : Nat) (μ : Mu) : Prop where
  rows : ∀ a, a < R.length → μ (ad a) = some (.lst (((if a < j then done ++ [p] else done).filter fun p => edgeB R ps b p a).map payD))
  want : μ wa = some (.dt ((done.filter (wantQ R b)).map fun p => (payK p, .lst (((List.range R.length).filter fun a => edgeB R ps b p a).map fun (a : Nat) => .int (a : Int)))))
  pl : μ pl = some (.lst (((List.range j).filter fun a => edgeB R ps b p a).map fun (a : Nat) => .int (a : Int)))
def slK (R : Rounds) (ps : List Str) (b : Rat) (ad : Nat → Addr) (wa : Addr) (x5 x7 x8 x9 x10 : Sl) : List Sl := [.dat (rsD R), .dat (.tf ps), .dat (fD b), .dat (.dk (dueKV R)), .dat (.fk (mrefs ((List.range R.length).map fun a => (kI a, ad a)))), x5, .dat (.mref wa), x7, x8, x9, x10]
theorem st_is_kept (lk : Bool) (x : KeA) (h : preKe x) : StX K lk noL (t_is_kept K) (startS 11 (encKe x)) mu0 (FnX fun d _ => d = .bl (keptB x)) := by
  obtain ⟨R, ps, b⟩ := x
  obtain ⟨wk, sb⟩ := h
  dsimp only at wk sb ⊢
  have w := wk.w
  have hl := w.len
  have h40 := names_len w
  have hT : 0 < R.length := List.length_pos_iff.mpr wk.ne
  refine sx_letD (d := .dk (dueKV R)) (eu_dict (ev_is (ev_call R (ea_cons (ev_v rfl) ea_nil) w) ?_) (by rw [dueKV_keys]; exact map_nodup (fun _ _ e => Sum.inr.inj e) (names_nodup R)) (by unfold dueKV; rw [List.length_map]; omega)) ?_
  · unfold duesD dueKV
    rw [List.map_map]
    rfl
  have lenR : ∀ {ρ : List Sl}, ρ[0]? = some (.dat (rsD R)) → ItS K lk (iRng1 (tCons (tCB (rLenU K) (tCons (tVar 0) tNil)) tNil)) ρ (fun ys => ys = rangeD 0 R.length) := fun {ρ} h0 => by
    have z := it_range1 (K := K) (lk := lk) (ρ := ρ) (n := (R.length : Int)) (ea_cons (ev_lenR (R := R) (ev_v h0)) ea_nil) (by omega) (by omega)
    rw [Int.toNat_natCast] at z
    exact z
  refine sx_let (xdcL (js := [5]) (ks := (List.range R.length).map kI) (lenR rfl) (by rw [List.length_map, List.length_range, rangeD_len]) (keys_nd _) (by rw [rangeD_len]; omega) (by decide) fun i x k hx hk => ?_) fun d μ1 ⟨prs, e1, e2, e3, e4, e5⟩ => ?_
  · obtain ⟨hi, rfl⟩ := get_range hx
    rw [List.getElem?_map, List.getElem?_range hi] at hk
    have hk : kI i = k := Option.some.inj hk
    subst hk
    refine ⟨_, tg_name, ev_is (ev_v rfl) ?_⟩
    show D.int (0 + (i : Nat)) = D.int (i : Int)
    rw [Int.zero_add]
  subst e4
  obtain ⟨ad, rfl⟩ := ads_of e1
  have eads : ((List.range R.length).map fun a => (kI a, ad a)).map (·.2) = (List.range R.length).map ad := by rw [List.map_map]; rfl
  rw [eads] at e2 e3 e5
  have adinj : ∀ i j, i < R.length → j < R.length → ad i = ad j → i = j := fun i j hi hj e => by
    apply Classical.byContradiction
    intro z
    have pw := List.nodup_iff_pairwise_ne.mp e2
    rw [List.pairwise_map] at pw
    rcases Nat.lt_or_gt_of_ne z with q | q
    · have := List.pairwise_iff_getElem.mp pw i j (by simpa using hi) (by simpa using hj) q
      simp at this
      exact this e
    · have := List.pairwise_iff_getElem.mp pw j i (by simpa using hj) (by simpa using hi) q
      simp at this
      exact this e.symm
  have m1 : ∀ a, a < R.length → μ1 (ad a) = some (.lst []) := fun a ha => by
    rw [e5]
    exact if_pos (List.mem_map.mpr ⟨a, List.mem_range.mpr ha, rfl⟩)
  refine dkT.xnew fun wa hwa => ?_
  have nwa : ∀ a, a < R.length → wa ≠ ad a := fun a ha z => by rw [z, m1 a ha] at hwa; cases hwa
  refine sx_forq (ix (is_lst (ev_call R (ea_cons (ev_v rfl) ea_nil) w))) (fun xs i ρ μ => xs = (payQ R).map payD ∧ (∃ x5 x7 x8 x9 x10, ρ = slK R ps b ad wa x5 x7 x8 x9 x10) ∧ IvK R ps b ad wa ((payQ R).take i) μ)
    (fun xs μ' ⟨e, em⟩ => ⟨e, ⟨_, _, _, _, _, rfl⟩, by
      rw [em]
      exact ⟨fun a ha => by rw [Mu.put_ne fun z => nwa a ha z.symm]; exact m1 a ha, Mu.put_same _ _ _⟩⟩) (fun xs i y ρ1 μ2 hx iv => ?_) fun xs ρ' μ2 iv => ?_
  · obtain ⟨exs, ⟨x5, x7, x8, x9, x10, rfl⟩, iv⟩ := iv
    rw [exs, List.getElem?_map] at hx
    cases hp : (payQ R)[i]? with
    | none => rw [hp] at hx; cases hx
    | some p =>
      rw [hp] at hx
      have hx : payD p = y := Option.some.inj hx
      subst hx
      obtain ⟨s, n⟩ := p
      have hpm : (s, n) ∈ payQ R := List.mem_of_getElem? hp
      obtain ⟨sm, n1, n2⟩ := pay_mem.mp hpm
      dsimp only at sm n1 n2
      have hnd : (s, n) ∉ (payQ R).take i := not_mem_take (pay_nodup R) hp
      have hpl : (payQ R).length ≤ 90 := by rw [pay_len]; exact wk.few
      rw [take_succ_of hp]
      have hdl : ((payQ R).take i).length ≤ 90 := by rw [List.length_take]; omega
      generalize hdone : (payQ R).take i = done at iv hnd hdl
      refine ⟨slK R ps b ad wa x5 (.dat (.str s)) (.dat (.int (n : Int))) x9 x10, tgx_tk2, ?_⟩
      refine sx_letD (d := .tup ((dueRow R s).map fD)) (eu_dget (k := .inr s) (ev_v rfl) (ev_v rfl) (dueKV_get sm)) ?_
      refine sx_newL fun pl hpln => ?_
      have npl : ∀ a, a < R.length → ad a ≠ pl := fun a ha z => by rw [← z, iv.rows a ha] at hpln; cases hpln
      have npw : wa ≠ pl := fun z => by rw [← z, iv.want] at hpln; cases hpln
      refine sx_forq (ix (lenR rfl)) (fun xs j ρ μ => xs = rangeD 0 R.length ∧ (∃ x5, ρ = slK R ps b ad wa x5 (.dat (.str s)) (.dat (.int (n : Int))) (.dat (.tup ((dueRow R s).map fD))) (.dat (.mref pl))) ∧ IvJ R ps b ad wa pl done (s, n) j μ)
        (fun xs μ' ⟨e, em⟩ => ⟨e, ⟨_, rfl⟩, by
          rw [em]
          refine ⟨fun a ha => ?_, ?_, Mu.put_same _ _ _⟩
          · rw [Mu.put_ne (npl a ha), iv.rows a ha, if_neg (Nat.not_lt_zero a)]
          · rw [Mu.put_ne npw]; exact iv.want⟩) (fun ys j y ρ1 μ3 hy jv => ?_) fun ys ρ' μ3 jv => ?_
      · obtain ⟨eys, ⟨x5, rfl⟩, jv⟩ := jv
        rw [eys] at hy
        obtain ⟨hj, rfl⟩ := get_range hy
        rw [Int.zero_add]
        refine ⟨slK R ps b ad wa (.dat (.int (j : Int))) (.dat (.str s)) (.dat (.int (n : Int))) (.dat (.tup ((dueRow R s).map fD))) (.dat (.mref pl)), tgx_name, ?_⟩
        have tk : ∀ {ρ : List Sl}, ρ[7]? = some (.dat (.str s)) → ρ[8]? = some (.dat (.int (n : Int))) → EvD K lk (tTupU (tCons (tVar 7) (tCons (tVar 8) tNil))) ρ (.tk (payK (s, n))) := fun {ρ} h7 h8 => eu_tupK (payK (s, n)) (ea_cons (ev_v h7) (ea_cons (ev_v h8) ea_nil)) (by show 2 ≤ 1000; decide)
        refine sx_ifD (b := edgeB R ps b (s, n) j) (tx (et_and (et_B (ev_call ((R, ps, (s, n), j) : OpA) (ea_cons (ev_v rfl) (ea_cons (ev_v rfl) (ea_cons (tk rfl rfl) (ea_cons (ev_v rfl) ea_nil)))) ⟨w, hj⟩)) fun _ => et_B (ev_call (((R, s, n, j), b) : HeA) (ea_cons (ev_v rfl) (ea_cons (ev_v rfl) (ea_cons (ev_v rfl) (ea_cons (ev_v rfl) ea_nil)))) ⟨⟨w, hj, n1, by show n ≤ 100; omega⟩, sb⟩))) (fun he => ?_) fun he => ?_
        · have hjl : ((List.range j).filter fun a => edgeB R ps b (s, n) a).length ≤ 20 := Nat.le_trans (List.length_filter_le _ _) (by rw [List.length_range]; omega)
          refine sx_appq (ev_v rfl) jv.pl (ev_v rfl) (by rw [List.length_map]; omega) ?_
          have hrow := jv.rows j hj
          rw [if_neg (Nat.lt_irrefl j)] at hrow
          have hdf : (done.filter fun p => edgeB R ps b p j).length ≤ 90 := Nat.le_trans (List.length_filter_le _ _) hdl
          refine sx_appD (a := ad j) (xs := (done.filter fun p => edgeB R ps b p j).map payD) (dkI.eget (k := kI j) (dkI.ev (ev_v rfl)) (ev_v rfl) ?_) (by rw [Mu.put_ne (npl j hj)]; exact hrow) (tk rfl rfl) (by rw [List.length_map]; omega) ⟨eys, ⟨_, rfl⟩, ?_⟩
          · show getD' (mrefs ((List.range R.length).map fun a => (kI a, ad a))) (kI j) = some (.mref (ad j))
            refine getD'_of_mem ?_ ?_
            · unfold mrefs; rw [List.map_map, List.map_map]; exact keys_nd _
            · unfold mrefs; rw [List.map_map]; exact List.mem_map.mpr ⟨j, List.mem_range.mpr hj, rfl⟩
          · refine ⟨fun a ha => ?_, ?_, ?_⟩
            · by_cases z : a = j
              · subst z
                rw [Mu.put_same, if_pos (Nat.lt_succ_self a), List.filter_append, List.map_append]
                have : ([(s, n)] : List (Str × Nat)).filter (fun p => edgeB R ps b p a) = [(s, n)] := by rw [List.filter_cons, if_pos he]; rfl
                rw [this]
                rfl
              · rw [Mu.put_ne (fun q => z (adinj a j ha hj q)), Mu.put_ne (npl a ha), jv.rows a ha]
                by_cases q : a < j
                · rw [if_pos q, if_pos (by omega)]
                · rw [if_neg q, if_neg (by omega)]
            · rw [Mu.put_ne (nwa j hj), Mu.put_ne npw]; exact jv.want
            · rw [Mu.put_ne (fun z => npl j hj z.symm), Mu.put_same, List.range_succ, List.filter_append, List.map_append]
              have : ([j] : List Nat).filter (fun a => edgeB R ps b (s, n) a) = [j] := by rw [List.filter_cons, if_pos he]; rfl
              rw [this]
              rfl
        · refine sx_next ⟨eys, ⟨_, rfl⟩, ⟨fun a ha => ?_, jv.want, ?_⟩⟩
          · rw [jv.rows a ha]
            by_cases z : a = j
            · subst z
              rw [if_neg (Nat.lt_irrefl a), if_pos (Nat.lt_succ_self a), List.filter_append]
              have : ([(s, n)] : List (Str × Nat)).filter (fun p => edgeB R ps b p a) = [] := by rw [List.filter_cons, if_neg (by rw [he]; decide)]; rfl
              rw [this, List.append_nil]
            · by_cases q : a < j
              · rw [if_pos q, if_pos (by omega)]
              · rw [if_neg q, if_neg (by omega)]
          · rw [jv.pl, List.range_succ, List.filter_append]
            have : ([j] : List Nat).filter (fun a => edgeB R ps b (s, n) a) = [] := by rw [List.filter_cons, if_neg (by rw [he]; decide)]; rfl
            rw [this, List.append_nil]
      · obtain ⟨eys, ⟨x5, rfl⟩, jv⟩ := jv
        rw [eys, rangeD_len] at jv
        have rows' : ∀ a, a < R.length → μ3 (ad a) = some (.lst (((done ++ [(s, n)]).filter fun p => edgeB R ps b p a).map payD)) := fun a ha => by rw [jv.rows a ha, if_pos ha]
        have hq : EvD K lk (rIxU K (tVar 9) (tUn (rU fun i => .int (-i)) (tC (.int 1)))) (slK R ps b ad wa x5 (.dat (.str s)) (.dat (.int (n : Int))) (.dat (.tup ((dueRow R s).map fD))) (.dat (.mref pl))) (fD (dueQ R s R.length)) := eu_ixT (ev_v rfl) (ev_neg ev_int) (at_last hT)
        have ds := due_small w s R.length
        have hn2 : ((n - 1 : Nat) : Int).natAbs < 2 ^ 2000 := by
          have : (100 : Nat) < 2 ^ 2000 := by decide
          omega
        have wb : Bq (2 ^ 900) (dueQ R s R.length - ((n - 1 : Nat) : Rat)) := ((due_bq w s _).sub (nat_bq (n := n - 1) (by omega))).mono le900
        refine sx_ifD (b := wantQ R b (s, n)) (tx (ev_less rfl (ev_v rfl) (ev_is (eu_tup (ds := [.int _, .int _]) (ea_cons (ev_sub (ev_top hq) (eu_mul (ev_is (ev_sub (ev_v rfl) ev_int) (y := .int ((n - 1 : Nat) : Int)) (by congr 1; show (n : Int) - 1 = ((n - 1 : Nat) : Int); omega)) (ev_bot hq) (small_mul hn2 (by simpa using ds.2)))) (ea_cons (ev_bot hq) ea_nil))) (sub_nat_num _ _).symm) sb (bq_small wb))) (fun hw => ?_) fun hw => ?_
        · refine sx_freeze (i := 10) (a := pl) rfl jv.pl id ?_
          refine dkT.xputD (k := payK (s, n)) (d := .lst (((List.range R.length).filter fun a => edgeB R ps b (s, n) a).map fun (a : Nat) => .int (a : Int))) (ev_v rfl) (ev_v rfl) (eu_tupK (payK (s, n)) (ea_cons (ev_v rfl) (ea_cons (ev_v rfl) ea_nil)) (by show 2 ≤ 1000; decide)) (by rw [show μ3.del pl wa = μ3 wa from if_neg npw]; exact jv.want) ?_ ⟨exs, ⟨_, _, _, _, _, rfl⟩, ⟨fun a ha => ?_, ?_⟩⟩
          · rw [List.length_map]
            have := List.length_filter_le (wantQ R b) done
            omega
          · rw [Mu.put_ne fun z => nwa a ha z.symm, show μ3.del pl (ad a) = μ3 (ad a) from if_neg (npl a ha)]
            exact rows' a ha
          · rw [Mu.put_same]
            congr 2
            rw [putD_new, List.filter_append, List.map_append]
            · have : ([(s, n)] : List (Str × Nat)).filter (wantQ R b) = [(s, n)] := by rw [List.filter_cons, if_pos hw]; rfl
              rw [this]
              rfl
            · intro z
              rw [List.map_map] at z
              obtain ⟨q, hq, e⟩ := List.mem_map.mp z
              exact hnd (payK_inj (show payK q = payK (s, n) from e) ▸ (List.mem_filter.mp hq).1)
        · refine sx_next ⟨exs, ⟨_, _, _, _, _, rfl⟩, ⟨rows', ?_⟩⟩
          rw [jv.want, List.filter_append]
          have : ([(s, n)] : List (Str × Nat)).filter (wantQ R b) = [] := by rw [List.filter_cons, if_neg (by rw [hw]; decide)]; rfl
          rw [this, List.append_nil]
  · obtain ⟨exs, ⟨x5, x7, x8, x9, x10, rfl⟩, iv⟩ := iv
    rw [exs, List.length_map, List.take_length] at iv
    refine dkT.xfz (i := 6) (a := wa) rfl iv.want id ?_
    refine sx_give (i := 4) (prs := (List.range R.length).map fun a => (kI a, ad a)) (xs := fun a => match μ2 a with | some (.lst l) => l | _ => []) rfl (fun a ha => ?_) (fun a _ => id) ?_
    · rw [eads] at ha
      obtain ⟨k, hk, rfl⟩ := List.mem_map.mp ha
      have hk := List.mem_range.mp hk
      rw [show μ2.del wa (ad k) = μ2 (ad k) from if_neg fun z => nwa k hk z.symm, iv.rows k hk]
    · refine sx_retD (ev_andV (ev_perfect dkI dkT (fun _ _ _ _ z => .inl z) (preA wk ps b) (ev_is (ev_v rfl) ?_)) fun _ => ev_perfect dkT dkI (fun _ _ _ _ z => .inr z) (preB wk ps b) (ev_is (ev_v rfl) ?_)) rfl
      · show D.fk _ = D.fk _
        congr 1
        unfold rowsL rowsA
        rw [List.map_map, List.map_map]
        refine List.map_congr_left fun a ha => ?_
        have ha := List.mem_range.mp ha
        show ((kI a, _) : Key × D) = (kI a, D.lst _)
        congr 1
        rw [iv.rows a ha]
        show D.lst _ = D.lst ((((payQ R).filter fun p => edgeB R ps b p a).map payK).map D.tk)
        rw [List.map_map]
        rfl
      · show D.ft _ = D.ft _
        congr 1
        unfold rowsL wantB
        rw [List.map_map]
        refine List.map_congr_left fun p _ => ?_
        show ((payK p, _) : List Key × D) = (payK p, D.lst _)
        congr 1
        show D.lst _ = D.lst ((((List.range R.length).filter fun a => edgeB R ps b p a).map kI).map kD)
        rw [List.map_map]
        rfl
theorem run_is_kept : ∀ vs H Q E, sp_is_kept K vs H Q E → t_is_kept K { nx := fun _ H' => Q .non H', rt := Q } (L2.start ["rounds", "payers", "bound", "known", "rows", "at", "wanted", "name", "number", "row", "places"] vs) H := sp_runX 11 rfl fun lk _ x h => st_is_kept lk x h
end
end RF

set_option Elab.async false
set_option linter.all false
set_option maxRecDepth 100000
set_option maxHeartbeats 4000000
set_option autoImplicit false
namespace RF
open PySem L2
/-! ### ways on, and what is_kept tells -/
/-- a way on from first payers: whole payers that begin with them -/
structure Way (R : Rounds) (ps ws : List Str) : Prop where
  len : ws.length = R.length
  pays : Pays R ws
  pre : ws.take ps.length = ps
def WithinQ (R : Rounds) (ws : List Str) (b : Rat) : Prop := ∀ s ∈ namesQ R, ∀ k, k < ws.length → gapQ R ws s k ≤ b
theorem abs_le {q c : Rat} : absQ q ≤ c ↔ q ≤ c ∧ -q ≤ c := by
  unfold absQ
  split <;> constructor <;> grind
theorem unf_nonneg (R : Rounds) (ps : List Str) : 0 ≤ unfQ R ps := (unf_le.mp (Rat.le_refl)).1
theorem unf_within (R : Rounds) (ps : List Str) : WithinQ R ps (unfQ R ps) := (unf_le.mp (Rat.le_refl)).2
/-! dues -/
theorem part_nonneg {r : Row} (h : WfRow r) (s : Str) : 0 ≤ partQ r s ∧ partQ r s ≤ 1 := by
  obtain ⟨a, b⟩ := wt_pos h
  obtain ⟨c, d⟩ := mine_le r s h.wt
  unfold partQ
  have hn : (0 : Int) < (((wtQ r).toNat : Nat) : Int) := by omega
  have h2 : (0 : Rat) < (((wtQ r).toNat : Nat) : Rat) := by
    have : 0 < (wtQ r).toNat := by omega
    exact_mod_cast this
  have h1 : (0 : Rat) ≤ ((mineQ r s : Int) : Rat) := by exact_mod_cast c
  have h3 : ((mineQ r s : Int) : Rat) ≤ (((wtQ r).toNat : Nat) : Rat) := by
    have : mineQ r s ≤ (((wtQ r).toNat : Nat) : Int) := by omega
    exact_mod_cast this
  rw [Rat.mkRat_eq_div]
  constructor
  · apply Rat.not_lt.mp
    intro z
    rw [Rat.div_lt_iff h2] at z
    grind
  · apply Rat.not_lt.mp
    intro z
    rw [Rat.lt_div_iff h2] at z
    grind
theorem due_zero (R : Rounds) (s : Str) : dueQ R s 0 = 0 := rfl
theorem due_step {R : Rounds} (w : Wf R) (s : Str) (k : Nat) (h : k < R.length) : dueQ R s k ≤ dueQ R s (k + 1) ∧ dueQ R s (k + 1) ≤ dueQ R s k + 1 := by
  have hr : R[k]? = some R[k] := List.getElem?_eq_getElem h
  obtain ⟨h1, h2⟩ := part_nonneg (w.rows _ (List.getElem_mem h)) s
  rw [due_succ hr]
  constructor <;> grind
theorem due_ok {R : Rounds} (w : Wf R) : DueOk R.length (namesQ R) (dueQ R) where
  zero := fun s => rfl
  mono := fun s i j hij hj => by
    induction j with
    | zero => rw [show i = 0 by omega]; exact Rat.le_refl
    | succ j ih =>
      by_cases z : i = j + 1
      · rw [z]; exact Rat.le_refl
      · have h1 := ih (by omega) (by omega)
        have h2 := (due_step w s j (by omega)).1
        grind
  top := fun s k hk => by
    induction k with
    | zero => exact Rat.le_refl
    | succ k ih =>
      have h1 := ih (by omega)
      have h2 := (due_step w s k (by omega)).2
      have : ((k + 1 : Nat) : Rat) = (k : Rat) + 1 := by push_cast; rfl
      grind
def canAt (R : Rounds) (a : Nat) : List Str := match R[a]? with | some r => canQ r | none => []
theorem can_names {R : Rounds} {a : Nat} {s : Str} (h : s ∈ canAt R a) : s ∈ namesQ R := by
  unfold canAt at h
  cases e : R[a]? with
  | none => rw [e] at h; cases h
  | some r =>
    rw [e] at h
    obtain ⟨g, hg, e1, _⟩ := can_mem h
    rw [names_mem]
    unfold allN
    exact List.mem_flatMap.mpr ⟨r, List.mem_of_getElem? e, List.mem_map.mpr ⟨g, hg, e1⟩⟩
theorem way_on {R : Rounds} {ps ws : List Str} (hp : ps.length ≤ R.length) : Way R ps ws ↔ WayOn R.length (canAt R) ps ws := by
  constructor
  · rintro ⟨h1, h2, h3⟩
    refine ⟨h1, fun i n e => ?_, fun i hi => ?_⟩
    · have hi : i < R.length := by rw [← h1]; exact (List.getElem?_eq_some_iff.mp e).1
      have hr : R[i]? = some R[i] := List.getElem?_eq_getElem hi
      unfold canAt
      rw [hr]
      exact h2.2 i _ n hr e
    · have : (ws.take ps.length)[i]? = ws[i]? := by rw [List.getElem?_take, if_pos hi]
      rw [← this, h3]
  · intro h
    refine ⟨h.len, ⟨by rw [h.len]; exact Nat.le_refl _, fun k r s hr hs => ?_⟩, (way_pre h hp).symm⟩
    have := h.can k s hs
    unfold canAt at this
    rw [hr] at this
    exact this
theorem within_iff {R : Rounds} (w : Wf R) {ws : List Str} (hl : ws.length = R.length) {b : Rat} (hb : 0 ≤ b) : WithinQ R ws b ↔ Within R.length (namesQ R) (dueQ R) ws b := by
  constructor
  · intro h s hs k hk
    cases k with
    | zero =>
      have e : paidN ws s 0 = 0 := by unfold paidN; simp
      rw [e, due_zero]
      constructor <;> (show _ ≤ b; have : ((0 : Nat) : Rat) = 0 := rfl; grind)
    | succ k =>
      have := h s hs k (by omega)
      unfold gapQ at this
      rw [abs_le] at this
      have e : paidN ws s (k + 1) = paidQ ws s (k + 1) := rfl
      rw [e]
      constructor <;> grind
  · intro h s hs k hk
    have := h s hs (k + 1) (by omega)
    unfold gapQ
    rw [abs_le]
    have e : paidN ws s (k + 1) = paidQ ws s (k + 1) := rfl
    rw [e] at this
    constructor <;> grind
theorem open_iff {R : Rounds} {ps : List Str} {p : Str × Nat} {a : Nat} (ha : a < R.length) : openB R ps p a = true ↔ OpenAt (canAt R) ps p a := by
  have hr : R[a]? = some R[a] := List.getElem?_eq_getElem ha
  unfold openB OpenAt canAt
  rw [hr]
  simp
theorem held_iff {R : Rounds} {b : Rat} {p : Str × Nat} {a : Nat} : heldB R b p a = true ↔ HeldAt (dueQ R) b p a := by
  unfold heldB HeldAt aheadQ behindQ
  simp [Rat.not_lt]
theorem edge_iff {R : Rounds} {ps : List Str} {b : Rat} {p : Str × Nat} {a : Nat} (ha : a < R.length) : (p ∈ payQ R ∧ edgeB R ps b p a = true) ↔ EdgeAt R.length (namesQ R) (canAt R) (dueQ R) ps b p a := by
  unfold edgeB EdgeAt IsPay
  rw [Bool.and_eq_true, open_iff ha, held_iff, pay_mem]
theorem want_iff {R : Rounds} {b : Rat} {p : Str × Nat} : (p ∈ payQ R ∧ wantQ R b p = true) ↔ WantAt R.length (namesQ R) (dueQ R) b p := by
  unfold wantQ WantAt IsPay
  rw [decide_eq_true_iff, pay_mem]
/-! the keys as they are -/
theorem rowsA_get {R : Rounds} {ps : List Str} {b : Rat} {a : Nat} (h : a < R.length) : rowsF (rowsA R ps b) (kI a) = ((payQ R).filter fun p => edgeB R ps b p a).map payK := by
  have z : getD' (rowsA R ps b) (kI a) = some (((payQ R).filter fun p => edgeB R ps b p a).map payK) := getD'_of_mem (by rw [rowsA_keys]; exact keys_nd _) (List.mem_map.mpr ⟨a, List.mem_range.mpr h, rfl⟩)
  unfold rowsF
  rw [z]
  rfl
theorem wantB_nd (R : Rounds) (ps : List Str) (b : Rat) : ((wantB R ps b).map (·.1)).Nodup := by rw [wantB_keys]; exact map_nodup (fun _ _ => payK_inj) ((pay_nodup R).filter _)
theorem wantB_get {R : Rounds} {ps : List Str} {b : Rat} {p : Str × Nat} (h : p ∈ payQ R) (hw : wantQ R b p = true) : rowsF (wantB R ps b) (payK p) = ((List.range R.length).filter fun a => edgeB R ps b p a).map kI := by
  have z : getD' (wantB R ps b) (payK p) = some (((List.range R.length).filter fun a => edgeB R ps b p a).map kI) := getD'_of_mem (wantB_nd R ps b) (List.mem_map.mpr ⟨p, List.mem_filter.mpr ⟨h, hw⟩, rfl⟩)
  unfold rowsF
  rw [z]
  rfl
theorem perfectA {R : Rounds} {ps : List Str} {b : Rat} : Perfect (rowsA R ps b) ↔ ∃ M : Nat → Str × Nat, (∀ a, a < R.length → EdgeAt R.length (namesQ R) (canAt R) (dueQ R) ps b (M a) a) ∧ ∀ a a', a < R.length → a' < R.length → M a = M a' → a = a' := by
  have mk : ∀ {k : Key}, k ∈ (rowsA R ps b).map (·.1) ↔ ∃ a, a < R.length ∧ kI a = k := fun {k} => by rw [rowsA_keys, List.mem_map]; simp
  constructor
  · rintro ⟨f, h1, h2⟩
    have ex : ∀ a : Nat, ∃ p : Str × Nat, a < R.length → payK p = f (kI a) ∧ p ∈ payQ R ∧ edgeB R ps b p a = true := fun a => by
      by_cases ha : a < R.length
      · have := h1 (kI a) (mk.mpr ⟨a, ha, rfl⟩)
        rw [rowsA_get ha] at this
        obtain ⟨p, hp, e⟩ := List.mem_map.mp this
        obtain ⟨hp1, hp2⟩ := List.mem_filter.mp hp
        exact ⟨p, fun _ => ⟨e, hp1, hp2⟩⟩
      · exact ⟨default, fun z => absurd z ha⟩
    obtain ⟨M, hM⟩ := Classical.axiomOfChoice ex
    refine ⟨M, fun a ha => (edge_iff ha).mp (hM a ha).2, fun a a' ha ha' e => ?_⟩
    have e2 : f (kI a) = f (kI a') := by rw [← (hM a ha).1, ← (hM a' ha').1, e]
    exact key_inl (h2 _ (mk.mpr ⟨a, ha, rfl⟩) _ (mk.mpr ⟨a', ha', rfl⟩) e2)
  · rintro ⟨M, h1, h2⟩
    have ex : ∀ k : Key, ∃ q : List Key, ∀ a, a < R.length → kI a = k → q = payK (M a) := fun k => by
      by_cases h : ∃ a, a < R.length ∧ kI a = k
      · obtain ⟨a, ha, e⟩ := h
        exact ⟨payK (M a), fun a' ha' e' => by rw [key_inl (e.trans e'.symm)]⟩
      · exact ⟨[], fun a ha e => absurd ⟨a, ha, e⟩ h⟩
    obtain ⟨f, hf⟩ := Classical.axiomOfChoice ex
    refine ⟨f, fun k hk => ?_, fun k hk k' hk' e => ?_⟩
    · obtain ⟨a, ha, rfl⟩ := mk.mp hk
      rw [hf _ a ha rfl, rowsA_get ha]
      obtain ⟨q1, q2⟩ := (edge_iff ha).mpr (h1 a ha)
      exact List.mem_map.mpr ⟨M a, List.mem_filter.mpr ⟨q1, q2⟩, rfl⟩
    · obtain ⟨a, ha, rfl⟩ := mk.mp hk
      obtain ⟨a', ha', rfl⟩ := mk.mp hk'
      rw [hf _ a ha rfl, hf _ a' ha' rfl] at e
      rw [h2 a a' ha ha' (payK_inj e)]
theorem perfectB {R : Rounds} {ps : List Str} {b : Rat} : Perfect (wantB R ps b) ↔ ∃ M : Str × Nat → Nat, (∀ p, WantAt R.length (namesQ R) (dueQ R) b p → M p < R.length ∧ EdgeAt R.length (namesQ R) (canAt R) (dueQ R) ps b p (M p)) ∧ ∀ p p', WantAt R.length (namesQ R) (dueQ R) b p → WantAt R.length (namesQ R) (dueQ R) b p' → M p = M p' → p = p' := by
  have mk : ∀ {k : List Key}, k ∈ (wantB R ps b).map (·.1) ↔ ∃ p, WantAt R.length (namesQ R) (dueQ R) b p ∧ payK p = k := fun {k} => by
    rw [wantB_keys, List.mem_map]
    constructor
    · rintro ⟨p, hp, e⟩
      exact ⟨p, want_iff.mp (List.mem_filter.mp hp), e⟩
    · rintro ⟨p, hp, e⟩
      exact ⟨p, List.mem_filter.mpr (want_iff.mpr hp), e⟩
  constructor
  · rintro ⟨f, h1, h2⟩
    have ex : ∀ p : Str × Nat, ∃ a : Nat, WantAt R.length (namesQ R) (dueQ R) b p → kI a = f (payK p) ∧ a < R.length ∧ edgeB R ps b p a = true := fun p => by
      by_cases hp : WantAt R.length (namesQ R) (dueQ R) b p
      · have := h1 (payK p) (mk.mpr ⟨p, hp, rfl⟩)
        obtain ⟨q1, q2⟩ := want_iff.mpr hp
        rw [wantB_get q1 q2] at this
        obtain ⟨a, ha, e⟩ := List.mem_map.mp this
        obtain ⟨ha1, ha2⟩ := List.mem_filter.mp ha
        exact ⟨a, fun _ => ⟨e, List.mem_range.mp ha1, ha2⟩⟩
      · exact ⟨0, fun z => absurd z hp⟩
    obtain ⟨M, hM⟩ := Classical.axiomOfChoice ex
    refine ⟨M, fun p hp => ⟨(hM p hp).2.1, (edge_iff (hM p hp).2.1).mp ⟨(want_iff.mpr hp).1, (hM p hp).2.2⟩⟩, fun p p' hp hp' e => ?_⟩
    have e2 : f (payK p) = f (payK p') := by rw [← (hM p hp).1, ← (hM p' hp').1, e]
    exact payK_inj (h2 _ (mk.mpr ⟨p, hp, rfl⟩) _ (mk.mpr ⟨p', hp', rfl⟩) e2)
  · rintro ⟨M, h1, h2⟩
    have ex : ∀ k : List Key, ∃ q : Key, ∀ p, WantAt R.length (namesQ R) (dueQ R) b p → payK p = k → q = kI (M p) := fun k => by
      by_cases h : ∃ p, WantAt R.length (namesQ R) (dueQ R) b p ∧ payK p = k
      · obtain ⟨p, hp, e⟩ := h
        exact ⟨kI (M p), fun p' hp' e' => by rw [payK_inj (e.trans e'.symm)]⟩
      · exact ⟨default, fun p hp e => absurd ⟨p, hp, e⟩ h⟩
    obtain ⟨f, hf⟩ := Classical.axiomOfChoice ex
    refine ⟨f, fun k hk => ?_, fun k hk k' hk' e => ?_⟩
    · obtain ⟨p, hp, rfl⟩ := mk.mp hk
      obtain ⟨q1, q2⟩ := want_iff.mpr hp
      rw [hf _ p hp rfl, wantB_get q1 q2]
      obtain ⟨m1, m2⟩ := h1 p hp
      exact List.mem_map.mpr ⟨M p, List.mem_filter.mpr ⟨List.mem_range.mpr m1, ((edge_iff m1).mpr m2).2⟩, rfl⟩
    · obtain ⟨p, hp, rfl⟩ := mk.mp hk
      obtain ⟨p', hp', rfl⟩ := mk.mp hk'
      rw [hf _ p hp rfl, hf _ p' hp' rfl] at e
      rw [h2 p p' hp hp' (key_inl e)]
/-- is_kept tells whether some way on has an unfairness no greater than the bound -/
theorem kept_iff {R : Rounds} (w : Wf R) {ps : List Str} (hp : ps.length ≤ R.length) {b : Rat} (hb : 0 ≤ b) : keptB (R, ps, b) = true ↔ ∃ ws, Way R ps ws ∧ unfQ R ws ≤ b := by
  have hc : ∀ a, a < R.length → ∀ n ∈ canAt R a, n ∈ namesQ R := fun a _ n h => can_names h
  have ek : keptB (R, ps, b) = true ↔ Perfect (rowsA R ps b) ∧ Perfect (wantB R ps b) := by
    unfold keptB
    simp
  rw [ek, perfectA, perfectB]
  constructor
  · rintro ⟨⟨M1, h1, i1⟩, M2, h2, i2⟩
    obtain ⟨ws, hw, hi⟩ := kept_way (due_ok w) hb hc M1 h1 i1 M2 h2 i2 hp
    exact ⟨ws, (way_on hp).mpr hw, unf_le.mpr ⟨hb, (within_iff w hw.len hb).mpr hi⟩⟩
  · rintro ⟨ws, hw, hu⟩
    obtain ⟨_, hi⟩ := unf_le.mp hu
    exact way_kept (due_ok w) hc hp ((way_on hp).mp hw) ((within_iff w hw.len hb).mp hi)
end RF

set_option Elab.async false
set_option linter.all false
set_option maxRecDepth 100000
set_option maxHeartbeats 4000000
set_option autoImplicit false
namespace RF
open PySem L2
section
variable {K : PySem.W.Frag} {lk : Bool} {w0 w w' w1 : Wd} {μ μ' : Mu} {L L' : Addr → Prop} {σ σ' : St} {ρ ρ' : List Sl} {te ta tb : TE} {tt tu : TT} {t u : TS} {p : PoX} {P : D → Prop} {X Y : D → Mu → Prop} {d : D} {g : TG} {wi : TI}
/-! ### lists that may be changed -/
theorem RpL.pick {I : Hp} {ds : List D} {vs : List V} (r : RpL K I ds vs) (f : Nat → Nat) : ∀ ks : List Nat, RpL K I (ks.filterMap fun k => ds[f k]?) (ks.filterMap fun k => vs[f k]?)
  | [] => rfl
  | k :: ks => by
    cases e : ds[f k]? with
    | none =>
      have e2 : vs[f k]? = none := by
        rw [List.getElem?_eq_none_iff] at e ⊢
        rw [r.length]; exact e
      rw [List.filterMap_cons_none (by rw [e]), List.filterMap_cons_none (by rw [e2])]
      exact RpL.pick r f ks
    | some x =>
      obtain ⟨v, hv, rv⟩ := r.get e
      rw [List.filterMap_cons_some (by rw [e]), List.filterMap_cons_some (by rw [hv])]
      exact ⟨v, _, rfl, rv, RpL.pick r f ks⟩
theorem RpL.step {I : Hp} {ds : List D} {vs : List V} (r : RpL K I ds vs) (s : Nat) : RpL K I (stepN s ds) (stepN s vs) := by
  unfold stepN
  rw [r.length]
  exact r.pick (fun k => 2 * k + s) _
theorem xstep {s : Nat} {a : Addr} {xs : List D} (ho : EvD K lk te ρ (.mref a)) (hm : μ a = some (.lst xs)) (hs : s ≤ xs.length) : EX K lk L (tStepL K s te) ρ μ (fun d μ' => ∃ b, μ b = none ∧ d = .mref b ∧ μ' = μ.put b (.lst (stepN s xs))) := fun w0 w σ st Q g => ho w w σ st.sr _ fun v w1 x l1 ok1 r1 e => by
  rw [show x = _ from e] at r1
  have s1 := st.mono l1 ok1
  obtain ⟨hI, ht, vs, hH, r⟩ := s1.mu a _ hm
  exact ⟨a, vs, r1, .inl (.inl hH), by rw [r.length]; exact hs, fun b hb => g (.ref b) (w1.put b (.lst (stepN s vs))) (.mref b) _ (s1.fresh hb (o := .lst (stepN s vs)) True.intro (m := .lst (stepN s xs)) ⟨_, upd_same, r.step s⟩) rfl ⟨b, s1.notfree hb, rfl, rfl⟩⟩
theorem xpop0 {to : TE} {a : Addr} {x : D} {xs : List D} (ho : EvD K lk to ρ (.mref a)) (hm : μ a = some (.lst (x :: xs))) : EX K lk L (tBM K "list" rPopAt to (tCons (tC (.int 0)) tNil)) ρ μ (fun d μ' => d = x ∧ μ' = μ.put a (.lst xs)) := fun w0 w σ st Q g => ho w w σ st.sr _ fun v w1 y l1 ok1 r1 e => by
  rw [show y = _ from e] at r1
  have s1 := st.mono l1 ok1
  obtain ⟨hI, ht, vs, hH, r⟩ := s1.mu a _ hm
  rw [show v = .ref a from r1]
  refine ⟨.inl ⟨rfl, vs, .inl (.inl hH)⟩, ?_⟩
  obtain ⟨z, zs, ez, rz, rzs⟩ := r
  subst ez
  refine ⟨a, z :: zs, 0, 0, z, rfl, rfl, hH, by decide, by decide, ?_, rfl, ?_⟩
  · unfold seqIndex?
    simp
  · exact g z (w1.put a (.lst zs)) x _ (s1.put hm (o := .lst zs) True.intro (m' := .lst xs) ⟨zs, upd_same, rzs⟩) rz ⟨rfl, rfl⟩
theorem xcat (ha : EX K lk L ta ρ μ X) (hb : ∀ d μ1, X d μ1 → ∃ a xs, d = .mref a ∧ EX K lk L tb ρ μ1 (fun e μ2 => ∃ b ys, e = .mref b ∧ μ2 a = some (.lst xs) ∧ μ2 b = some (.lst ys) ∧ xs.length + ys.length ≤ 100000 ∧ ∀ c, μ2 c = none → Y (.mref c) (μ2.put c (.lst (xs ++ ys))))) : EX K lk L (tOp (rAddU K) ta tb) ρ μ Y := fun w0 w σ st Q g => ha w0 w σ st _ fun v w1 d μ1 s1 r1 c => by
  obtain ⟨a, xs, ed, hb⟩ := hb d μ1 c
  subst ed
  refine hb w0 w1 σ s1 _ fun u w2 e μ2 s2 r2 ⟨b, ys, ee, ma, mb, hl, y⟩ => ?_
  subst ee
  rw [show v = .ref a from r1, show u = .ref b from r2]
  obtain ⟨_, _, vs, hH, r⟩ := s2.mu a _ ma
  obtain ⟨_, _, us, hH', r'⟩ := s2.mu b _ mb
  refine .inr (.inr (.inr (.inr ⟨a, b, vs, us, rfl, rfl, .inl (.inl hH), .inl (.inl hH'), ?_, fun c hc => ?_⟩)))
  · rw [r.length, r'.length]; exact Nat.le_trans hl (by decide)
  · exact g (.ref c) (w2.put c (.lst (vs ++ us))) (.mref c) _ (s2.fresh hc (o := .lst (vs ++ us)) True.intro (m := .lst (xs ++ ys)) ⟨_, upd_same, r.append r'⟩) rfl (y c (s2.notfree hc))
theorem ex_if {T : Bool → Mu → Prop} (h : TX K lk L tt ρ μ T) (h1 : ∀ μ', T true μ' → EX K lk L ta ρ μ' X) (h2 : ∀ μ', T false μ' → EX K lk L tb ρ μ' X) : EX K lk L (tIf tt ta tb) ρ μ X := fun w0 w σ s Q g => h w0 w σ s _ fun b w' μ' s' e => by
  cases b with
  | true => exact h1 μ' e w0 w' σ s' Q g
  | false => exact h2 μ' e w0 w' σ s' Q g
theorem sx_par {i j : Nat} {ta : TA} {C : List Ar → Mu → Prop} (h : AX K lk L ta ρ μ C) (k : ∀ as μ', C as μ' → ∃ a b, as = [.d a, .d b] ∧ p.nx ((ρ.set i (.dat a)).set j (.dat b)) μ') : StX K lk L (tPar i j ta) ρ μ p := fun w0 w σ E s f => h w0 w σ s _ fun vs w' as μ' s' r c => by
  obtain ⟨a, b, rfl, q⟩ := k as μ' c
  obtain ⟨v, u, rfl, r1, r2⟩ := ars_two r
  exact ⟨v, u, rfl, f.nx _ w' _ μ' ((s'.set i r1).set j r2) q⟩
theorem sx_parq {i j : Nat} {ta : TA} {C : List Ar → Mu → Prop} (h : AX K lk L ta ρ μ C) (k : ∀ as μ', C as μ' → ∃ a b, as = [.d a, .d b] ∧ StX K lk L u ((ρ.set i (.dat a)).set j (.dat b)) μ' p) : StX K lk L (tSeq (tPar i j ta) u) ρ μ p :=
  sx_seq (fun ρ' μ' => StX K lk L u ρ' μ' p) (sx_par h k) fun ρ' μ' z => z
/-- what is returned is given up -/
theorem sx_retF (h : EX K lk L te ρ μ X) (k : ∀ d μ', X d μ' → ∃ a m, d = .mref a ∧ μ' a = some m ∧ ¬ L a ∧ m.isNt = false ∧ p.rt m.dat (μ'.del a)) : StX K lk L (tRet te) ρ μ p := fun w0 w σ E s f => h w0 w σ s _ fun v w' d μ' s' r c => by
  obtain ⟨a, m, rfl, hm, hl, hx, q⟩ := k d μ' c
  obtain ⟨o, eo, rp, s2⟩ := s'.freeze hm hl hx
  rw [show v = .ref a from r]
  exact f.rt (.ref a) (w'.fix a o) m.dat _ s2.le s2.ok s2.lk s2.mu s2.own rp q
/-! ### the dict that begins with a tuple of the module's -/
variable {Pg : Program} {wd : World}
theorem keys_rp {I : Hp} : ∀ ks : List Key, RpL K I (ks.map kD) (ks.map kV)
  | [] => rfl
  | k :: ks => ⟨_, _, rfl, kD_rp k, keys_rp ks⟩
theorem keys_eq {I : Hp} : ∀ {ks : List Key} {vs : List V}, RpL K I (ks.map kD) vs → vs = ks.map kV
  | [], _, r => r
  | k :: ks, _, ⟨x, t, e, r, q⟩ => by rw [e, kD_inj (J := I) r, keys_eq q]; rfl
def addN (kss : List (List Key)) (ks : List Key) : List (List Key) := if (kss.any fun x => decide (x = ks)) = true then kss else kss ++ [ks]
theorem xDispN {b : Addr} {ks : List Key} (hb : ∀ I : Hp, SqT K I b (ks.map kV)) : EX K lk L (tDispN Pg wd b ks) ρ μ (fun d μ' => ∃ a, μ a = none ∧ d = .mref a ∧ μ' = μ.put a (.nt Pg wd [ks])) := fun w0 w σ s Q g a ha =>
  g (.ref a) (w.put a (ntO Pg wd a [(ks, b)])) (.mref a) _ (s.fresh ha (o := ntO Pg wd a [(ks, b)]) True.intro (m := .nt Pg wd [ks]) ⟨[(ks, b)], upd_same, rfl, fun z hz => by rw [show z = (ks, b) by simpa using hz]; exact hb _⟩) rfl ⟨a, s.notfree ha, rfl, rfl⟩
theorem xputN {to ti tv : TE} {a : Addr} {ks : List Key} {kss : List (List Key)} (ho : EvD K lk to ρ (.mref a)) (hk : EvD K lk ti ρ (.tup (ks.map kD))) (hv : EvD K lk tv ρ (.bl true)) (hm : μ a = some (.nt Pg wd kss)) (hl : kss.length ≤ 100000) (q : p.nx ρ (μ.put a (.nt Pg wd (addN kss ks)))) : StX K lk L (sPutN Pg wd K to ti tv) ρ μ p := fun w0 w σ E s f =>
  hv w w σ s.sr _ fun v w1 d1 l1 ok1 r1 e1 => ho w1 w1 σ (s.mono l1 ok1).sr _ fun v2 w2 d2 l2 ok2 r2 e2 => hk w2 w2 σ ((s.mono l1 ok1).mono l2 ok2).sr _ fun y w3 x3 l3 ok3 r3 e3 => by
    rw [show d1 = _ from e1] at r1
    rw [show d2 = _ from e2] at r2
    rw [show x3 = _ from e3] at r3
    have s3 := ((s.mono l1 ok1).mono l2 ok2).mono l3 ok3
    obtain ⟨hI, ht, xs, hH, hx, hz⟩ := s3.mu a _ hm
    obtain ⟨b, us, ey, sq, ru⟩ := r3
    have eu := keys_eq ru
    subst eu
    have el : xs.length = kss.length := by rw [← hx, List.length_map]
    have ea : (xs.any fun x => decide (x.1 = ks)) = kss.any fun x => decide (x = ks) := by rw [← hx, List.any_map]; rfl
    refine ⟨a, xs, ks, b, r2, r1, ey, hH, sqT_keeps (.of_same ok3.sub) sq, fun z h => sqT_keeps (.of_same ok3.sub) (hz z h), by rw [el]; exact hl, ?_⟩
    refine f.nx σ (w3.put a _) ρ _ (s3.put hm (o := ntO Pg wd a (if (xs.any fun x => decide (x.1 = ks)) = true then xs else xs ++ [(ks, b)])) True.intro (m' := .nt Pg wd (addN kss ks)) ⟨_, upd_same, ?_, fun z h => ?_⟩) q
    · unfold addN
      rw [ea]
      split
      · exact hx
      · rw [List.map_append, hx]; rfl
    · split at h
      · exact hz z h
      · rcases List.mem_append.mp h with c | c
        · exact hz z c
        · rw [show z = (ks, b) by simpa using c]; exact sq
theorem xlistN {a : Addr} {kss : List (List Key)} (ho : EvD K lk te ρ (.mref a)) (hm : μ a = some (.nt Pg wd kss)) (hl : kss.length ≤ 100000) : EX K lk L (tCB (rListN Pg wd) (tCons te tNil)) ρ μ (fun d μ' => ∃ b, μ b = none ∧ d = .mref b ∧ μ' = μ.put b (.lst (kss.map fun ks => .tup (ks.map kD)))) := fun w0 w σ s Q g =>
  ho w w σ s.sr _ fun v w1 d1 l1 ok1 r1 e1 => by
    rw [show d1 = _ from e1] at r1
    have s1 := s.mono l1 ok1
    obtain ⟨hI, ht, xs, hH, hx, hz⟩ := s1.mu a _ hm
    have el : xs.length = kss.length := by rw [← hx, List.length_map]
    refine ⟨a, xs, by rw [show v = .ref a from r1], hH, by rw [el]; exact hl, fun b hb => ?_⟩
    refine g (.ref b) (w1.put b (.lst (xs.map fun x => V.ref x.2))) (.mref b) _ (s1.fresh hb (o := .lst (xs.map fun x => V.ref x.2)) True.intro (m := .lst (kss.map fun ks => .tup (ks.map kD))) ⟨_, upd_same, ?_⟩) rfl ⟨b, s1.notfree hb, rfl, rfl⟩
    have key : ∀ zs : List (List Key × Addr), (∀ z ∈ zs, SqT K w1.I z.2 (z.1.map kV)) → RpL K w1.I ((zs.map (·.1)).map fun ks => .tup (ks.map kD)) (zs.map fun x => V.ref x.2) := fun zs => by
      induction zs with
      | nil => exact fun _ => rfl
      | cons z zs ih => exact fun h => ⟨_, _, rfl, ⟨z.2, _, rfl, h z (by simp), keys_rp _⟩, ih fun y hy => h y (by simp [hy])⟩
    rw [← hx]
    exact key xs hz
end
end RF

set_option Elab.async false
set_option linter.all false
set_option maxRecDepth 100000
set_option maxHeartbeats 4000000
set_option autoImplicit false
namespace RF
open PySem L2
/-! ### every second one -/
section
variable {α β : Type}
theorem stepN_map (f : α → β) (s : Nat) (xs : List α) : stepN s (xs.map f) = (stepN s xs).map f := by
  unfold stepN
  rw [List.length_map, List.map_filterMap]
  refine congrArg (fun g => List.filterMap g _) (funext fun k => ?_)
  rw [List.getElem?_map]
theorem stepN_len {s : Nat} {xs : List α} (hs : s ≤ 1) : (stepN s xs).length = (xs.length + 1 - s) / 2 := by
  unfold stepN
  rw [List.length_filterMap_eq_countP]
  have : List.countP (fun a => (xs[2 * a + s]?).isSome) (List.range ((xs.length + 1 - s) / 2)) = (List.range ((xs.length + 1 - s) / 2)).length := by
    rw [List.countP_eq_length]
    intro k hk
    have hk := List.mem_range.mp hk
    rw [List.getElem?_eq_getElem (by omega)]
    rfl
  rw [this, List.length_range]
theorem stepN_mem {xs : List α} {x : α} : (x ∈ stepN 0 xs ∨ x ∈ stepN 1 xs) ↔ x ∈ xs := by
  have key : ∀ s, s ≤ 1 → (x ∈ stepN s xs ↔ ∃ k, k < (xs.length + 1 - s) / 2 ∧ xs[2 * k + s]? = some x) := fun s _ => by
    unfold stepN
    rw [List.mem_filterMap]
    constructor
    · rintro ⟨k, hk, e⟩; exact ⟨k, List.mem_range.mp hk, e⟩
    · rintro ⟨k, hk, e⟩; exact ⟨k, List.mem_range.mpr hk, e⟩
  rw [key 0 (by decide), key 1 (by decide)]
  constructor
  · rintro (⟨k, _, e⟩ | ⟨k, _, e⟩) <;> exact List.mem_of_getElem? e
  · intro h
    obtain ⟨i, hi, e⟩ := List.mem_iff_getElem.mp h
    have e2 : xs[i]? = some x := by rw [List.getElem?_eq_getElem hi, e]
    rcases Nat.mod_two_eq_zero_or_one i with z | z
    · refine .inl ⟨i / 2, by omega, ?_⟩
      rw [show 2 * (i / 2) + 0 = i by omega]; exact e2
    · refine .inr ⟨i / 2, by omega, ?_⟩
      rw [show 2 * (i / 2) + 1 = i by omega]; exact e2
end
/-! ### in_order -/
structure OrA where
  a : Addr
  qs : List Rat
def encOr (x : OrA) : List Ar := [.d (.mref x.a)]
structure PreOr (n : Nat) (x : OrA) (μ : Mu) : Prop where
  m : μ x.a = some (.lst (x.qs.map fD))
  few : x.qs.length ≤ 2 ^ n
  len : x.qs.length ≤ 2000
  small : ∀ q ∈ x.qs, Small q
structure PostOr (x : OrA) (μ : Mu) (b : Addr) (ys : List Rat) (μ' : Mu) : Prop where
  mb : μ' b = some (.lst (ys.map fD))
  fresh : b = x.a ∨ μ b = none
  other : ∀ c, c ≠ x.a → μ c ≠ none → μ' c = μ c
  sorted : ys.Pairwise (· ≤ ·)
  mem : ∀ q, q ∈ ys ↔ q ∈ x.qs
  len : ys.length = x.qs.length
def spN_in_order (K : PySem.W.Frag) (n : Nat) : Sp := spX K encOr (PreOr n) (fun x μ d μ' => ∃ b ys, d = .mref b ∧ PostOr x μ b ys μ')
def sp_in_order (K : PySem.W.Frag) : Sp := spN_in_order K 11
/-- slots: 0 rows, 1 one, 2 other, 3 found, 4 some -/
def t_in_order (K : PySem.W.Frag) (spr_in_order : Sp) : TS := (tSeq (tIfS (tTest (tOp (rLtU K) (tCB (rLenU K) (tCons (tVar 0) tNil)) (tC (.int 2)))) (tRet (tVar 0)) tNext) (tSeq (tPar 1 2 (tCons (tCall spr_in_order [] E0 (tCons (tStepL K 0 (tVar 0)) tNil)) (tCons (tCall spr_in_order [] E0 (tCons (tStepL K 1 (tVar 0)) tNil)) tNil))) (tSeq (tAsg (tLst tNil) (gName 3)) (tSeq (tWhile (tAnd (tTest (tOp (rNeU K) (tVar 1) (tLst tNil))) (tTest (tOp (rNeU K) (tVar 2) (tLst tNil)))) (tSeq (tAsg (tIf (tB (tCall (sp_is_less K) [] E0 (tCons (rIxU K (tVar 1) (tC (.int 0))) (tCons (rIxU K (tVar 2) (tC (.int 0))) tNil)))) (tVar 1) (tVar 2)) (gName 4)) (tDrop (tBM K "list" rAppend (tVar 3) (tCons (tBM K "list" rPopAt (tVar 4) (tCons (tC (.int 0)) tNil)) tNil))))) (tRet (tOp (rAddU K) (tOp (rAddU K) (tVar 3) (tVar 1)) (tVar 2)))))))
/-- three lists on the way to one -/
structure Mg (qs fs os ts : List Rat) : Prop where
  sf : fs.Pairwise (· ≤ ·)
  so : os.Pairwise (· ≤ ·)
  st : ts.Pairwise (· ≤ ·)
  lo : ∀ p ∈ fs, ∀ q ∈ os, p ≤ q
  lt : ∀ p ∈ fs, ∀ q ∈ ts, p ≤ q
  mem : ∀ q, (q ∈ fs ∨ q ∈ os ∨ q ∈ ts) ↔ q ∈ qs
  len : fs.length + os.length + ts.length = qs.length
theorem pw_snoc {fs : List Rat} {p : Rat} (h : fs.Pairwise (· ≤ ·)) (k : ∀ q ∈ fs, q ≤ p) : (fs ++ [p]).Pairwise (· ≤ ·) := by
  rw [List.pairwise_append]
  exact ⟨h, by simp, fun a ha b hb => by rw [show b = p by simpa using hb]; exact k a ha⟩
theorem Mg.one {qs fs os ts : List Rat} {p q : Rat} (h : Mg qs fs (p :: os) (q :: ts)) (l : p < q) : Mg qs (fs ++ [p]) os (q :: ts) := by
  obtain ⟨so1, so2⟩ := List.pairwise_cons.mp h.so
  obtain ⟨st1, st2⟩ := List.pairwise_cons.mp h.st
  refine ⟨pw_snoc h.sf fun a ha => h.lo a ha p (by simp), so2, h.st, fun a ha b hb => ?_, fun a ha b hb => ?_, fun x => ?_, ?_⟩
  · rcases List.mem_append.mp ha with z | z
    · exact h.lo a z b (by simp [hb])
    · rw [show a = p by simpa using z]; exact so1 b hb
  · rcases List.mem_append.mp ha with z | z
    · exact h.lt a z b hb
    · rw [show a = p by simpa using z]
      rcases List.mem_cons.mp hb with c | c
      · rw [c]; exact Rat.le_of_lt l
      · exact Rat.le_trans (Rat.le_of_lt l) (st1 b c)
  · rw [← h.mem x]
    simp only [List.mem_append, List.mem_cons, List.mem_singleton, List.not_mem_nil, or_false]
    constructor
    · rintro ((z | z) | z | z)
      · exact .inl z
      · exact .inr (.inl (.inl z))
      · exact .inr (.inl (.inr z))
      · exact .inr (.inr z)
    · rintro (z | (z | z) | z)
      · exact .inl (.inl z)
      · exact .inl (.inr z)
      · exact .inr (.inl z)
      · exact .inr (.inr z)
  · have := h.len
    simp only [List.length_append, List.length_cons, List.length_nil] at this ⊢
    omega
theorem Mg.swap {qs fs os ts : List Rat} (h : Mg qs fs os ts) : Mg qs fs ts os := ⟨h.sf, h.st, h.so, h.lt, h.lo, fun q => by rw [← h.mem q]; constructor <;> (rintro (z | z | z) <;> simp [z]), by have := h.len; omega⟩
theorem Mg.two {qs fs os ts : List Rat} {p q : Rat} (h : Mg qs fs (p :: os) (q :: ts)) (l : ¬ p < q) : Mg qs (fs ++ [q]) (p :: os) ts := by
  have l : q ≤ p := Rat.not_lt.mp l
  obtain ⟨so1, so2⟩ := List.pairwise_cons.mp h.so
  obtain ⟨st1, st2⟩ := List.pairwise_cons.mp h.st
  refine ⟨pw_snoc h.sf fun a ha => h.lt a ha q (by simp), h.so, st2, fun a ha b hb => ?_, fun a ha b hb => ?_, fun x => ?_, ?_⟩
  · rcases List.mem_append.mp ha with z | z
    · exact h.lo a z b hb
    · rw [show a = q by simpa using z]
      rcases List.mem_cons.mp hb with c | c
      · rw [c]; exact l
      · exact Rat.le_trans l (so1 b c)
  · rcases List.mem_append.mp ha with z | z
    · exact h.lt a z b (by simp [hb])
    · rw [show a = q by simpa using z]; exact st1 b hb
  · rw [← h.mem x]
    simp only [List.mem_append, List.mem_cons, List.mem_singleton, List.not_mem_nil, or_false]
    constructor
    · rintro ((z | z) | z | z)
      · exact .inl z
      · exact .inr (.inr (.inl z))
      · exact .inr (.inl z)
      · exact .inr (.inr (.inr z))
    · rintro (z | z | z | z)
      · exact .inl (.inl z)
      · exact .inr (.inl z)
      · exact .inl (.inr z)
      · exact .inr (.inr z)
  · have := h.len
    simp only [List.length_append, List.length_cons, List.length_nil] at this ⊢
    omega
theorem Mg.done {qs fs os ts : List Rat} (h : Mg qs fs os ts) (e : os = [] ∨ ts = []) : (fs ++ os ++ ts).Pairwise (· ≤ ·) ∧ (∀ q, q ∈ fs ++ os ++ ts ↔ q ∈ qs) ∧ (fs ++ os ++ ts).length = qs.length := by
  refine ⟨?_, fun q => by rw [← h.mem q]; simp [or_assoc], by have := h.len; simp only [List.length_append]; omega⟩
  rcases e with rfl | rfl
  · rw [List.append_nil, List.pairwise_append]
    exact ⟨h.sf, h.st, h.lt⟩
  · rw [List.append_nil, List.pairwise_append]
    exact ⟨h.sf, h.so, h.lo⟩
section
variable {K : PySem.W.Frag} {lk : Bool} {μ : Mu} {ρ : List Sl} {L : Addr → Prop}
theorem der0 (μ : Mu) (xs : List D) : xs.map (der μ 0) = xs := by
  have : der μ 0 = id := funext fun d => by unfold der; rfl
  rw [this, List.map_id]
theorem view_l {i : Nat} {a : Addr} {xs : List D} (hi : ρ[i]? = some (.dat (.mref a))) (hm : μ a = some (.lst xs)) : (ρ.map (derS μ 1))[i]? = some (.dat (.lst xs)) := by
  rw [List.getElem?_map, hi]
  show some (derS μ 1 (.dat (.mref a))) = _
  have : der μ 1 (.mref a) = .lst (xs.map (der μ 0)) := by simp only [der, hm]
  show some (Sl.dat (der μ 1 (.mref a))) = _
  rw [this, der0]
theorem plain_fDs (qs : List Rat) : Plain 2 (.lst (qs.map fD)) := fun x hx => by
  obtain ⟨q, _, rfl⟩ := List.mem_map.mp hx
  intro y hy
  simp only [List.mem_cons, List.not_mem_nil, or_false] at hy
  rcases hy with rfl | rfl <;> exact True.intro
theorem tx_ne {i : Nat} {a : Addr} {qs : List Rat} (hi : ρ[i]? = some (.dat (.mref a))) (hm : μ a = some (.lst (qs.map fD))) : EvB K lk (tTest (tOp (rNeU K) (tVar i) (tLst tNil))) (ρ.map (derS μ 1)) (!decide (qs = [])) := by
  have z := et_test (eu_neD (K := K) (lk := lk) 2 (ev_v (view_l hi hm)) (ev_lst (ds := []) ea_nil) (plain_fDs qs) (plain_nilL 1))
  rw [eqD_lst_nil] at z
  refine eb_is z ?_
  cases qs <;> simp
theorem at_head (x : D) (xs : List D) : atI (x :: xs) 0 = some x := by
  unfold atI ixN
  simp
def slO (a b1 b2 f : Addr) (x4 : Sl) : List Sl := [.dat (.mref a), .dat (.mref b1), .dat (.mref b2), .dat (.mref f), x4]
theorem st_in_order (n : Nat) (lk : Bool) (x : OrA) (μ : Mu) (h : PreOr (n + 1) x μ) : StX K lk (fun a => μ a ≠ none) (t_in_order K (spN_in_order K n)) (startS 5 (encOr x)) μ (FnX fun d μ' => ∃ b ys, d = .mref b ∧ PostOr x μ b ys μ') := by
  obtain ⟨a, qs⟩ := x
  obtain ⟨m0, few, len, small⟩ := h
  dsimp only at m0 few len small
  refine sx_ifq (T := fun b μ' => b = decide ((((qs.map fD).length : Nat) : Int) < 2) ∧ μ' = μ) (txv 1 (et_test (eu_lt (eu_lenL (ev_v (view_l rfl m0))) ev_int))) (fun μ' ⟨e, em⟩ => ?_) fun μ' ⟨e, em⟩ => ?_
  · subst em
    refine sx_retq (exD (ev_v rfl)) fun d μ' ⟨e1, e2⟩ => ?_
    subst e1 e2
    have hl : qs.length ≤ 1 := by
      have := of_decide_eq_true e.symm
      rw [List.length_map] at this
      omega
    refine ⟨a, qs, rfl, m0, .inl rfl, fun c _ _ => rfl, ?_, fun q => Iff.rfl, rfl⟩
    match qs, hl with
    | [], _ => exact .nil
    | [p], _ => simp
  · subst em
    have hl : 2 ≤ qs.length := by
      have := of_decide_eq_false e.symm
      rw [List.length_map] at this
      omega
    have na : μ' a ≠ none := by rw [m0]; exact fun z => nomatch z
    refine sx_nextq ?_
    have half : ∀ s, s ≤ 1 → (stepN s qs).length ≤ 2 ^ n := fun s hs => by
      rw [stepN_len hs]
      have : 2 ^ (n + 1) = 2 * 2 ^ n := by rw [Nat.pow_succ]; omega
      omega
    have sm : ∀ s, s ≤ 1 → ∀ q ∈ stepN s qs, q ∈ qs := fun s hs q hq => by
      rw [← stepN_mem]
      match s, hs with
      | 0, _ => exact .inl hq
      | 1, _ => exact .inr hq
    have call : ∀ (s : Nat) (μ1 : Mu), s ≤ 1 → μ1 a = some (.lst (qs.map fD)) → EX K lk (fun a => μ' a ≠ none) (tCall (spN_in_order K n) [] E0 (tCons (tStepL K s (tVar 0)) tNil)) (startS 5 (encOr ⟨a, qs⟩)) μ1 (fun d μ2 => ∃ t b ys, μ1 t = none ∧ d = .mref b ∧ PostOr ⟨t, stepN s qs⟩ (μ1.put t (.lst ((stepN s qs).map fD))) b ys μ2) := fun s μ1 hs m1 => by
      refine ex_call (C := fun as μ2 => ∃ t, μ1 t = none ∧ as = [.d (.mref t)] ∧ μ2 = μ1.put t (.lst ((stepN s qs).map fD))) (ax_cons (xstep (ev_v rfl) m1 (by rw [List.length_map]; omega)) fun d μ2 ⟨t, h1, h2, h3⟩ => ?_) fun as μ2 ⟨t, h1, h2, h3⟩ => ⟨⟨t, stepN s qs⟩, h2, ⟨?_, half s hs, ?_, fun q hq => small q (sm s hs q hq)⟩, fun d μ3 ⟨b, ys, e, po⟩ => ⟨t, b, ys, h1, e, by rw [← h3]; exact po⟩⟩
      · subst h2
        rw [stepN_map] at h3
        exact ax_nil' ⟨t, h1, rfl, h3⟩
      · rw [h3]; exact Mu.put_same _ _ _
      · exact Nat.le_trans (stepN_le s qs) len
    refine sx_parq (C := fun as μ3 => ∃ b1 b2 os ts, as = [.d (.mref b1), .d (.mref b2)] ∧ b1 ≠ b2 ∧ μ' b1 = none ∧ μ' b2 = none ∧ μ3 b1 = some (.lst (os.map fD)) ∧ μ3 b2 = some (.lst (ts.map fD)) ∧ Mg qs [] os ts ∧ ∀ c, μ' c ≠ none → μ3 c = μ' c) (ax_cons (call 0 μ' (by decide) m0) fun d μ1 ⟨t1, b1, os, ht1, e1, p1⟩ => ?_) ?_
    · subst e1
      have k1 : ∀ c, μ' c ≠ none → μ1 c = μ' c := fun c hc => by
        have nt : c ≠ t1 := fun z => hc (by rw [z]; exact ht1)
        rw [p1.other c nt (by rw [Mu.put_ne nt]; exact hc), Mu.put_ne nt]
      have hb1 : μ' b1 = none := by
        rcases p1.fresh with z | z
        · rw [z]; exact ht1
        · by_cases y : b1 = t1
          · rw [y]; exact ht1
          · rw [Mu.put_ne y] at z; exact z
      refine ax_cons (call 1 μ1 (by decide) (by rw [k1 a na]; exact m0)) fun d μ2 ⟨t2, b2, ts, ht2, e2, p2⟩ => ?_
      subst e2
      have n12 : b1 ≠ t2 := fun z => by rw [← z, p1.mb] at ht2; cases ht2
      have k2 : ∀ c, μ1 c ≠ none → μ2 c = μ1 c := fun c hc => by
        have nt : c ≠ t2 := fun z => hc (by rw [z]; exact ht2)
        rw [p2.other c nt (by rw [Mu.put_ne nt]; exact hc), Mu.put_ne nt]
      have hb2 : μ1 b2 = none := by
        rcases p2.fresh with z | z
        · rw [z]; exact ht2
        · by_cases y : b2 = t2
          · rw [y]; exact ht2
          · rw [Mu.put_ne y] at z; exact z
      have h1n : μ1 b1 ≠ none := by rw [p1.mb]; exact fun z => nomatch z
      refine ax_nil' ⟨b1, b2, os, ts, rfl, fun z => h1n (by rw [z]; exact hb2), hb1, ?_, by rw [k2 b1 h1n]; exact p1.mb, p2.mb, ?_, fun c hc => ?_⟩
      · apply Classical.byContradiction
        intro z
        rw [k1 b2 z] at hb2
        exact z hb2
      · refine ⟨.nil, p1.sorted, p2.sorted, (fun _ z => nomatch z), (fun _ z => nomatch z), fun q => ?_, ?_⟩
        · rw [p1.mem, p2.mem, ← stepN_mem (xs := qs)]
          simp
        · rw [p1.len, p2.len]
          show 0 + (stepN 0 qs).length + (stepN 1 qs).length = _
          rw [stepN_len (by decide), stepN_len (by decide)]
          omega
      · have c1 := k1 c hc
        rw [k2 c (by rw [c1]; exact hc), c1]
    rintro as μ3 ⟨b1, b2, os0, ts0, rfl, n12, f1, f2, m1, m2, mg0, keep0⟩
    refine ⟨_, _, rfl, sx_newL fun f hf => ?_⟩
    have nf1 : f ≠ b1 := fun z => by rw [z, m1] at hf; cases hf
    have nf2 : f ≠ b2 := fun z => by rw [z, m2] at hf; cases hf
    have hf0 : μ' f = none := by
      apply Classical.byContradiction
      intro z
      rw [keep0 f z] at hf
      exact z hf
    refine sx_seq (fun ρ μ4 => ∃ x4 fs os ts, ρ = slO a b1 b2 f x4 ∧ Mg qs fs os ts ∧ (os = [] ∨ ts = []) ∧ μ4 f = some (.lst (fs.map fD)) ∧ μ4 b1 = some (.lst (os.map fD)) ∧ μ4 b2 = some (.lst (ts.map fD)) ∧ ∀ c, μ' c ≠ none → μ4 c = μ' c) (sx_while (fun m ρ μ4 => ∃ x4 fs os ts, ρ = slO a b1 b2 f x4 ∧ m = os.length + ts.length ∧ Mg qs fs os ts ∧ μ4 f = some (.lst (fs.map fD)) ∧ μ4 b1 = some (.lst (os.map fD)) ∧ μ4 b2 = some (.lst (ts.map fD)) ∧ ∀ c, μ' c ≠ none → μ4 c = μ' c) (os0.length + ts0.length) ⟨_, [], os0, ts0, rfl, rfl, mg0, Mu.put_same _ _ _, by rw [Mu.put_ne fun z => nf1 z.symm]; exact m1, by rw [Mu.put_ne fun z => nf2 z.symm]; exact m2, fun c hc => by rw [Mu.put_ne fun z => hc (by rw [z]; exact hf0)]; exact keep0 c hc⟩ ?_) ?_
    · rintro m ρ μ4 ⟨x4, fs, os, ts, rfl, rfl, mg, mf, mo, mt, keep⟩
      have hlen := mg.len
      refine ⟨fun b μ5 => b = ((!decide (os = [])) && (!decide (ts = []))) ∧ μ5 = μ4, txv 1 (et_and (tx_ne rfl mo) fun _ => tx_ne rfl mt), ?_, ?_⟩
      · rintro μ5 ⟨e, rfl⟩
        have e := Bool.and_eq_true_iff.mp e.symm
        match os, ts with
        | [], _ => simp at e
        | _ :: _, [] => simp at e
        | o :: os, q :: ts =>
          have ho : o ∈ qs := (mg.mem o).mp (.inr (.inl (by simp)))
          have hq : q ∈ qs := (mg.mem q).mp (.inr (.inr (by simp)))
          refine sx_let (X := fun d μ6 => d = .mref (if o < q then b1 else b2) ∧ μ6 = μ5) (ex_if (txv 1 (ev_less rfl (eu_ixL (ev_v (view_l (i := 1) rfl mo)) ev_int (at_head _ _)) (eu_ixL (ev_v (view_l (i := 2) rfl mt)) ev_int (at_head _ _)) (small o ho) (small q hq))) (fun μ6 ⟨c, e6⟩ => EX.imp (exD (ev_v rfl)) fun d μ7 ⟨e7, e8⟩ => ⟨by rw [e7, if_pos (of_decide_eq_true c.symm)], by rw [e8, e6]⟩) fun μ6 ⟨c, e6⟩ => EX.imp (exD (ev_v rfl)) fun d μ7 ⟨e7, e8⟩ => ⟨by rw [e7, if_neg (of_decide_eq_false c.symm)], by rw [e8, e6]⟩) fun d μ6 ⟨e6, e7⟩ => ?_
          subst e6 e7
          simp only [List.length_cons] at hlen
          by_cases c : o < q
          · rw [if_pos c]
            refine sx_app (ev_v rfl) mf (xpop0 (x := fD o) (xs := os.map fD) (ev_v rfl) mo) fun d μ7 ⟨e8, e9⟩ => ⟨fs.map fD, by rw [e9, Mu.put_ne nf1]; exact mf, by rw [List.length_map]; omega, ?_⟩
            subst e8 e9
            refine ⟨os.length + (ts.length + 1), by simp only [List.length_cons]; omega, _, fs ++ [o], os, q :: ts, rfl, rfl, mg.one c, ?_, ?_, ?_, fun z hz => ?_⟩
            · rw [Mu.put_same, List.map_append]; rfl
            · rw [Mu.put_ne fun z => nf1 z.symm, Mu.put_same]
            · rw [Mu.put_ne fun z => nf2 z.symm, Mu.put_ne fun z => n12 z.symm]; exact mt
            · rw [Mu.put_ne fun y => hz (by rw [y]; exact hf0), Mu.put_ne fun y => hz (by rw [y]; exact f1)]; exact keep z hz
          · rw [if_neg c]
            refine sx_app (ev_v rfl) mf (xpop0 (x := fD q) (xs := ts.map fD) (ev_v rfl) mt) fun d μ7 ⟨e8, e9⟩ => ⟨fs.map fD, by rw [e9, Mu.put_ne nf2]; exact mf, by rw [List.length_map]; omega, ?_⟩
            subst e8 e9
            refine ⟨(os.length + 1) + ts.length, by simp only [List.length_cons]; omega, _, fs ++ [q], o :: os, ts, rfl, by simp, mg.two c, ?_, ?_, ?_, fun z hz => ?_⟩
            · rw [Mu.put_same, List.map_append]; rfl
            · rw [Mu.put_ne fun z => nf1 z.symm, Mu.put_ne n12]; exact mo
            · rw [Mu.put_ne fun z => nf2 z.symm, Mu.put_same]
            · rw [Mu.put_ne fun y => hz (by rw [y]; exact hf0), Mu.put_ne fun y => hz (by rw [y]; exact f2)]; exact keep z hz
      · rintro μ5 ⟨e, rfl⟩
        refine ⟨x4, fs, os, ts, rfl, mg, ?_, mf, mo, mt, keep⟩
        cases os with
        | nil => exact .inl rfl
        | cons o os =>
          cases ts with
          | nil => exact .inr rfl
          | cons q ts => simp at e
    · rintro ρ μ4 ⟨x4, fs, os, ts, rfl, mg, ht, mf, mo, mt, keep⟩
      have hlen := mg.len
      obtain ⟨d1, d2, d3⟩ := mg.done ht
      refine sx_ret (xcat (Y := fun d μ6 => ∃ b, d = .mref b ∧ PostOr ⟨a, qs⟩ μ' b (fs ++ os ++ ts) μ6) (xcat (X := fun d μ5 => d = .mref f ∧ μ5 = μ4) (Y := fun d μ5 => ∃ c, μ4 c = none ∧ d = .mref c ∧ μ5 = μ4.put c (.lst ((fs ++ os).map fD))) (exD (ev_v rfl)) fun d μ5 ⟨e1, e2⟩ => ⟨f, fs.map fD, e1, EX.imp (exD (d := .mref b1) (ev_v rfl)) fun e μ6 ⟨e3, e4⟩ => ⟨b1, os.map fD, e3, ?_, ?_, ?_, fun c hc => ⟨c, ?_, rfl, ?_⟩⟩⟩) fun d μ5 ⟨c, hc, e1, e2⟩ => ⟨c, (fs ++ os).map fD, e1, EX.imp (exD (d := .mref b2) (ev_v rfl)) fun e μ6 ⟨e3, e4⟩ => ⟨b2, ts.map fD, e3, ?_, ?_, ?_, fun r hr => ⟨r, rfl, ?_⟩⟩⟩) fun d μ5 ⟨b, e, po⟩ => ⟨b, _, e, po⟩
      · rw [e4, e2]; exact mf
      · rw [e4, e2]; exact mo
      · simp only [List.length_map]; omega
      · rw [e4, e2] at hc; exact hc
      · rw [e4, e2, List.map_append]
      · rw [e4, e2]; exact Mu.put_same _ _ _
      · rw [e4, e2, Mu.put_ne fun z => by rw [← z, mt] at hc; cases hc]; exact mt
      · simp only [List.length_map, List.length_append]; omega
      · have hr4 : μ4 r = none := by
          rw [e4, e2] at hr
          by_cases z : r = c
          · rw [z]; exact hc
          · rw [Mu.put_ne z] at hr; exact hr
        refine ⟨by rw [Mu.put_same, ← List.map_append], ?_, fun z hz1 hz2 => ?_, d1, d2, d3⟩
        · right
          apply Classical.byContradiction
          intro z
          rw [keep r z] at hr4
          exact z hr4
        · have k := keep z hz2
          have nz4 : μ4 z ≠ none := by rw [k]; exact hz2
          rw [Mu.put_ne fun y => nz4 (by rw [y]; exact hr4), e4, e2, Mu.put_ne fun y => nz4 (by rw [y]; exact hc)]
          exact k
theorem st_in_order0 (spr : Sp) (lk : Bool) (x : OrA) (μ : Mu) (h : PreOr 0 x μ) : StX K lk (fun a => μ a ≠ none) (t_in_order K spr) (startS 5 (encOr x)) μ (FnX fun d μ' => ∃ b ys, d = .mref b ∧ PostOr x μ b ys μ') := by
  obtain ⟨a, qs⟩ := x
  obtain ⟨m0, few, len, small⟩ := h
  dsimp only at m0 few len small
  have hl : qs.length ≤ 1 := few
  refine sx_ifq (T := fun b μ' => b = decide ((((qs.map fD).length : Nat) : Int) < 2) ∧ μ' = μ) (txv 1 (et_test (eu_lt (eu_lenL (ev_v (view_l rfl m0))) ev_int))) (fun μ' ⟨e, em⟩ => ?_) fun μ' ⟨e, em⟩ => ?_
  · subst em
    refine sx_retq (exD (ev_v rfl)) fun d μ' ⟨e1, e2⟩ => ?_
    subst e1 e2
    refine ⟨a, qs, rfl, m0, .inl rfl, fun c _ _ => rfl, ?_, fun q => Iff.rfl, rfl⟩
    match qs, hl with
    | [], _ => exact .nil
    | [p], _ => simp
  · have := of_decide_eq_false e.symm
    rw [List.length_map] at this
    omega
theorem len_in_order (n : Nat) : ∀ vs H Q E, spN_in_order K n vs H Q E → vs.length = 1 := spx_len fun _ => rfl
theorem run_in_order (n : Nat) : ∀ vs H Q E, spN_in_order K (n + 1) vs H Q E → t_in_order K (spN_in_order K n) { nx := fun _ H' => Q .non H', rt := Q } (L2.start ["rows", "one", "other", "found", "some"] vs) H := spx_run 5 rfl fun lk x μ h => st_in_order n lk x μ h
theorem run_in_order0 (spr : Sp) : ∀ vs H Q E, spN_in_order K 0 vs H Q E → t_in_order K spr { nx := fun _ H' => Q .non H', rt := Q } (L2.start ["rows", "one", "other", "found", "some"] vs) H := spx_run 5 rfl fun lk x μ h => st_in_order0 spr lk x μ h
end
end RF

set_option Elab.async false
set_option linter.all false
set_option maxRecDepth 100000
set_option maxHeartbeats 4000000
set_option autoImplicit false
set_option exponentiation.threshold 6000
namespace RF
open PySem L2
/-! ### gaps -/
def fK (q : Rat) : List Key := [.inl q.num, .inl (q.den : Int)]
theorem fK_fD (q : Rat) : D.tup ((fK q).map kD) = fD q := rfl
theorem fK_inj {p q : Rat} (h : fK p = fK q) : p = q := by
  unfold fK at h
  have h1 : p.num = q.num := by
    have := (List.cons.inj h).1
    exact Sum.inl.inj this
  have h2 : (p.den : Int) = (q.den : Int) := by
    have := (List.cons.inj (List.cons.inj h).2).1
    exact Sum.inl.inj this
  exact Rat.ext h1 (by omega)
def addQ (qs : List Rat) (q : Rat) : List Rat := if q ∈ qs then qs else qs ++ [q]
theorem addQ_mem {qs : List Rat} {q x : Rat} : x ∈ addQ qs q ↔ x ∈ qs ∨ x = q := by
  unfold addQ
  split
  · rename_i h
    constructor
    · exact fun z => .inl z
    · rintro (z | z)
      · exact z
      · rw [z]; exact h
  · simp
theorem addQ_len (qs : List Rat) (q : Rat) : (addQ qs q).length ≤ qs.length + 1 := by
  unfold addQ
  split <;> simp
theorem addN_fK (qs : List Rat) (q : Rat) : addN (qs.map fK) (fK q) = (addQ qs q).map fK := by
  unfold addN addQ
  have e : ((qs.map fK).any fun x => decide (x = fK q)) = decide (q ∈ qs) := by
    rw [List.any_map]
    rw [Bool.eq_iff_iff, List.any_eq_true, decide_eq_true_iff]
    constructor
    · rintro ⟨p, hp, e⟩
      rw [← fK_inj (of_decide_eq_true e)]
      exact hp
    · intro h
      exact ⟨q, h, decide_eq_true rfl⟩
  rw [e]
  by_cases h : q ∈ qs
  · rw [if_pos (decide_eq_true h), if_pos h]
  · rw [if_neg (fun z => h (of_decide_eq_true z)), if_neg h, List.map_append]
    rfl
/-- a gap that there can be -/
def gapT (R : Rounds) (s : Str) (k n : Nat) : Rat := absQ (dueQ R s (k + 1) - (n : Rat))
def IsGap (R : Rounds) (q : Rat) : Prop := q = 0 ∨ ∃ s ∈ namesQ R, ∃ k, k < R.length ∧ ∃ n, n ≤ R.length ∧ q = gapT R s k n
structure Gaps (R : Rounds) (qs : List Rat) : Prop where
  sorted : qs.Pairwise (· ≤ ·)
  mem : ∀ q, q ∈ qs ↔ IsGap R q
  len : qs.length ≤ 2000
def sp_gaps (K : PySem.W.Frag) : Sp := spP K false (fun R : Rounds => [.d (rsD R)]) WfK (fun R d => ∃ qs, d = .lst (qs.map fD) ∧ Gaps R qs)
theorem gapT_bq {R : Rounds} (w : Wf R) (s : Str) (k : Nat) {n : Nat} (h : n ≤ 100) : Bq (2 ^ 900) (gapT R s k n) := (((due_bq w s (k + 1)).sub (nat_bq (n := n) (by omega))).mono le900).abs
theorem isgap_small {R : Rounds} (w : Wf R) {q : Rat} (h : IsGap R q) : Small q := by
  rcases h with rfl | ⟨s, hs, k, hk, n, hn, rfl⟩
  · exact bq_small (.zero (Nat.pos_of_ne_zero (by decide)))
  · have := w.len
    exact bq_small (gapT_bq w s k (by omega))
/-- slots: 0 rounds, 1 found, 2 name, 3 row, 4 due, 5 number, 6 rows -/
def t_gaps (K : PySem.W.Frag) (P : Program) (w : World) : TS := (tSeq (tAsg (tDispN P w (He.ga K "NOUGHT") [.inl 0, .inl 1]) (gName 1)) (tSeq (tFor (iSeq K (tCall (sp_dues K) [] E0 (tCons (tVar 0) tNil))) (gTup K 2 (gCons (gName 2) (gCons (gName 3) gNil))) (tFor (iSeq K (tVar 3)) (gName 4) (tFor (iRng1 (tCons (tOp (rAddU K) (tCB (rLenU K) (tCons (tVar 0) tNil)) (tC (.int 1))) tNil)) (gName 5) (sPutN P w K (tVar 1) (tCall (sp_far K) [] E0 (tCons (tVar 4) (tCons (tCall (sp_whole K) [] E0 (tCons (tVar 5) tNil)) tNil))) (tC (.bl true)))))) (tSeq (tAsg (tCB (rListN P w) (tCons (tVar 1) tNil)) (gName 6)) (tRet (tCall (sp_in_order K) [] E0 (tCons (tVar 6) tNil))))))
/-- what is found when the first i names, of the next name j dues, of the next due l numbers are gone through -/
structure IvG (R : Rounds) (i j l : Nat) (qs : List Rat) : Prop where
  len : qs.length ≤ 1 + i * (R.length * (R.length + 1)) + j * (R.length + 1) + l
  mem : ∀ q, q ∈ qs ↔ q = 0 ∨ ∃ i' s k n, (namesQ R)[i']? = some s ∧ k < R.length ∧ n ≤ R.length ∧ (i' < i ∨ i' = i ∧ (k < j ∨ k = j ∧ n < l)) ∧ q = gapT R s k n
theorem IvG.add {R : Rounds} {i j l : Nat} {qs : List Rat} {s : Str} (h : IvG R i j l qs) (hs : (namesQ R)[i]? = some s) (hj : j < R.length) (hl : l ≤ R.length) : IvG R i j (l + 1) (addQ qs (gapT R s j l)) := by
  refine ⟨?_, fun q => ?_⟩
  · have := addQ_len qs (gapT R s j l)
    have := h.len
    omega
  · rw [addQ_mem, h.mem]
    constructor
    · rintro ((z | ⟨i', s', k, n, h1, h2, h3, h4, h5⟩) | z)
      · exact .inl z
      · exact .inr ⟨i', s', k, n, h1, h2, h3, by omega, h5⟩
      · exact .inr ⟨i, s, j, l, hs, hj, hl, by omega, z⟩
    · rintro (z | ⟨i', s', k, n, h1, h2, h3, h4, h5⟩)
      · exact .inl (.inl z)
      · by_cases c : i' = i ∧ k = j ∧ n = l
        · obtain ⟨rfl, rfl, rfl⟩ := c
          rw [hs] at h1
          cases h1
          exact .inr h5
        · exact .inl (.inr ⟨i', s', k, n, h1, h2, h3, by omega, h5⟩)
theorem IvG.row {R : Rounds} {i j : Nat} {qs : List Rat} (h : IvG R i j (R.length + 1) qs) : IvG R i (j + 1) 0 qs := by
  refine ⟨?_, fun q => ?_⟩
  · have := h.len
    have e : (j + 1) * (R.length + 1) = j * (R.length + 1) + (R.length + 1) := Nat.succ_mul _ _
    omega
  · rw [h.mem]
    constructor
    · rintro (z | ⟨i', s', k, n, h1, h2, h3, h4, h5⟩)
      · exact .inl z
      · exact .inr ⟨i', s', k, n, h1, h2, h3, by omega, h5⟩
    · rintro (z | ⟨i', s', k, n, h1, h2, h3, h4, h5⟩)
      · exact .inl z
      · exact .inr ⟨i', s', k, n, h1, h2, h3, by omega, h5⟩
theorem IvG.name {R : Rounds} {i : Nat} {qs : List Rat} (h : IvG R i R.length 0 qs) : IvG R (i + 1) 0 0 qs := by
  refine ⟨?_, fun q => ?_⟩
  · have := h.len
    have e : (i + 1) * (R.length * (R.length + 1)) = i * (R.length * (R.length + 1)) + R.length * (R.length + 1) := Nat.succ_mul _ _
    omega
  · rw [h.mem]
    constructor
    · rintro (z | ⟨i', s', k, n, h1, h2, h3, h4, h5⟩)
      · exact .inl z
      · exact .inr ⟨i', s', k, n, h1, h2, h3, by omega, h5⟩
    · rintro (z | ⟨i', s', k, n, h1, h2, h3, h4, h5⟩)
      · exact .inl z
      · exact .inr ⟨i', s', k, n, h1, h2, h3, by omega, h5⟩
theorem IvG.done {R : Rounds} {qs : List Rat} (h : IvG R (namesQ R).length 0 0 qs) (q : Rat) : q ∈ qs ↔ IsGap R q := by
  rw [h.mem]
  constructor
  · rintro (z | ⟨i', s', k, n, h1, h2, h3, h4, h5⟩)
    · exact .inl z
    · exact .inr ⟨s', List.mem_of_getElem? h1, k, h2, n, h3, h5⟩
  · rintro (z | ⟨s, hs, k, hk, n, hn, e⟩)
    · exact .inl z
    · obtain ⟨i, hi, es⟩ := List.mem_iff_getElem.mp hs
      exact .inr ⟨i, s, k, n, by rw [List.getElem?_eq_getElem hi, es], hk, hn, by omega, e⟩
theorem few_all {R : Rounds} (w : WfK R) {i j l : Nat} (hi : i < (namesQ R).length) (hj : j < R.length) (hl : l ≤ R.length) : 1 + i * (R.length * (R.length + 1)) + j * (R.length + 1) + l < 2000 := by
  have h1 := w.w.len
  have h2 := w.few
  have h3 : j * (R.length + 1) + l < R.length * (R.length + 1) := by
    have : (j + 1) * (R.length + 1) ≤ R.length * (R.length + 1) := Nat.mul_le_mul_right _ hj
    have e : (j + 1) * (R.length + 1) = j * (R.length + 1) + (R.length + 1) := Nat.succ_mul _ _
    omega
  have h4 : (i + 1) * (R.length * (R.length + 1)) ≤ (namesQ R).length * (R.length * (R.length + 1)) := Nat.mul_le_mul_right _ hi
  have e4 : (i + 1) * (R.length * (R.length + 1)) = i * (R.length * (R.length + 1)) + R.length * (R.length + 1) := Nat.succ_mul _ _
  have h5 : (namesQ R).length * (R.length * (R.length + 1)) ≤ 90 * 21 := by
    rw [← Nat.mul_assoc]
    exact Nat.mul_le_mul h2 (by omega)
  omega
theorem few_end {R : Rounds} (w : WfK R) : 1 + (namesQ R).length * (R.length * (R.length + 1)) + 0 * (R.length + 1) + 0 ≤ 2000 := by
  have h1 := w.w.len
  have h5 : (namesQ R).length * (R.length * (R.length + 1)) ≤ 90 * 21 := by
    rw [← Nat.mul_assoc]
    exact Nat.mul_le_mul w.few (by omega)
  omega
section
variable {K : PySem.W.Frag} {lk : Bool} {Pg : Program} {wd : World}
theorem nought_sq (hn : NoughtOk K) (I : Hp) : SqT K I (He.ga K "NOUGHT") (([.inl 0, .inl 1] : List Key).map kV) := by
  obtain ⟨a, xs, e, sq, r⟩ := hn I
  cases e
  have r : RpL K I (([.inl 0, .inl 1] : List Key).map kD) xs := r
  rw [keys_eq r] at sq
  exact sq
def slG (R : Rounds) (fa : Addr) (x2 x3 x4 x5 x6 : Sl) : List Sl := [.dat (rsD R), .dat (.mref fa), x2, x3, x4, x5, x6]
theorem st_gaps (hn : NoughtOk K) (lk : Bool) (R : Rounds) (wk : WfK R) : StX K lk noL (t_gaps K Pg wd) (startS 7 [.d (rsD R)]) mu0 (FnX fun d _ => ∃ qs, d = .lst (qs.map fD) ∧ Gaps R qs) := by
  have w := wk.w
  have hl := w.len
  refine sx_let (xDispN (nought_sq hn)) fun d μ1 ⟨fa, hfa, e1, e2⟩ => ?_
  subst e1 e2
  refine sx_forq (ix (is_lst (ev_call R (ea_cons (ev_v rfl) ea_nil) w))) (fun xs i ρ μ => xs = duesD R ∧ (∃ x2 x3 x4 x5 x6, ρ = slG R fa x2 x3 x4 x5 x6) ∧ ∃ qs, μ fa = some (.nt Pg wd (qs.map fK)) ∧ IvG R i 0 0 qs)
    (fun xs μ' ⟨e, em⟩ => ⟨e, ⟨_, _, _, _, _, rfl⟩, [0], by rw [em]; exact Mu.put_same _ _ _, ⟨by simp, fun q => ?_⟩⟩) (fun xs i y ρ1 μ2 hx iv => ?_) fun xs ρ' μ2 iv => ?_
  · simp
  · obtain ⟨exs, ⟨x2, x3, x4, x5, x6, rfl⟩, qs, hm, iv⟩ := iv
    rw [exs] at hx
    obtain ⟨s, hs, rfl⟩ := get_due hx
    have hi : i < (namesQ R).length := (List.getElem?_eq_some_iff.mp hs).1
    refine ⟨_, tgx_tup2, ?_⟩
    refine sx_for (ix (is_tup (ev_v rfl))) (fun ys j ρ μ => ys = (dueRow R s).map fD ∧ (∃ x4 x5 x6, ρ = slG R fa (.dat (.str s)) (.dat (.tup ((dueRow R s).map fD))) x4 x5 x6) ∧ ∃ qs, μ fa = some (.nt Pg wd (qs.map fK)) ∧ IvG R i j 0 qs)
      (fun ys μ' ⟨e, em⟩ => ⟨e, ⟨_, _, _, rfl⟩, qs, by rw [em]; exact hm, iv⟩) (fun ys j y ρ1 μ3 hy jv => ?_) fun ys ρ' μ3 jv => ?_
    · obtain ⟨eys, ⟨x4, x5, x6, rfl⟩, qs, hm, jv⟩ := jv
      rw [eys, List.getElem?_map] at hy
      have hj : j < R.length := by
        rw [← due_row_len R s]
        apply Classical.byContradiction
        intro z
        rw [List.getElem?_eq_none (by omega)] at hy
        cases hy
      rw [due_row_get hj] at hy
      have hy : fD (dueQ R s (j + 1)) = y := Option.some.inj hy
      subst hy
      refine ⟨_, tgx_name, ?_⟩
      have rng : ItS K lk (iRng1 (tCons (tOp (rAddU K) (tCB (rLenU K) (tCons (tVar 0) tNil)) (tC (.int 1))) tNil)) (slG R fa (.dat (.str s)) (.dat (.tup ((dueRow R s).map fD))) (.dat (fD (dueQ R s (j + 1)))) x5 x6) (fun zs => zs = rangeD 0 (R.length + 1)) := by
        have z := it_range1 (K := K) (lk := lk) (ρ := slG R fa (.dat (.str s)) (.dat (.tup ((dueRow R s).map fD))) (.dat (fD (dueQ R s (j + 1)))) x5 x6) (n := (R.length : Int) + 1) (ea_cons (eu_add (ev_lenR (R := R) (ev_v (i := 0) rfl)) ev_int) ea_nil) (by omega) (by omega)
        rw [show ((R.length : Int) + 1).toNat = R.length + 1 by omega] at z
        exact z
      refine sx_for (ix rng) (fun zs l ρ μ => zs = rangeD 0 (R.length + 1) ∧ (∃ x5 x6, ρ = slG R fa (.dat (.str s)) (.dat (.tup ((dueRow R s).map fD))) (.dat (fD (dueQ R s (j + 1)))) x5 x6) ∧ ∃ qs, μ fa = some (.nt Pg wd (qs.map fK)) ∧ IvG R i j l qs)
        (fun zs μ' ⟨e, em⟩ => ⟨e, ⟨_, _, rfl⟩, qs, by rw [em]; exact hm, jv⟩) (fun zs l z ρ1 μ4 hz lv => ?_) fun zs ρ' μ4 lv => ?_
      · obtain ⟨ezs, ⟨x5, x6, rfl⟩, qs, hm, lv⟩ := lv
        rw [ezs] at hz
        obtain ⟨hl2, rfl⟩ := get_range hz
        rw [Int.zero_add]
        refine ⟨_, tgx_name, ?_⟩
        have hlen := lv.len
        have hfew := few_all wk hi hj (show l ≤ R.length by omega)
        refine xputN (ks := fK (gapT R s j l)) (kss := qs.map fK) (ev_v rfl) (ev_call ((dueQ R s (j + 1), (l : Rat)) : Q2) (ea_cons (ev_v rfl) (ea_cons (ev_wholeN (ev_v rfl)) ea_nil)) ⟨due_small w s _, bq_small ((nat_bq (n := l) (by omega)).mono (by decide))⟩) ev_bl hm (by rw [List.length_map]; omega) ⟨ezs, ⟨_, _, rfl⟩, addQ qs (gapT R s j l), ?_, lv.add hs hj (by omega)⟩
        rw [Mu.put_same, addN_fK]
      · obtain ⟨ezs, ⟨x5, x6, rfl⟩, qs, hm, lv⟩ := lv
        rw [ezs, rangeD_len] at lv
        exact ⟨eys, ⟨_, _, _, rfl⟩, qs, hm, lv.row⟩
    · obtain ⟨eys, ⟨x4, x5, x6, rfl⟩, qs, hm, jv⟩ := jv
      rw [eys, List.length_map, due_row_len] at jv
      exact ⟨exs, ⟨_, _, _, _, _, rfl⟩, qs, hm, jv.name⟩
  · obtain ⟨exs, ⟨x2, x3, x4, x5, x6, rfl⟩, qs, hm, iv⟩ := iv
    rw [exs, show (duesD R).length = (namesQ R).length from by unfold duesD; rw [List.length_map]] at iv
    have hlen := iv.len
    have hfew := few_end wk
    refine sx_let (xlistN (ev_v rfl) hm (by rw [List.length_map]; omega)) fun d μ3 ⟨b, hb, e1, e2⟩ => ?_
    subst e1 e2
    rw [List.map_map]
    have em : qs.map ((fun ks => D.tup (ks.map kD)) ∘ fK) = qs.map fD := rfl
    rw [em]
    refine sx_retF (ex_call (C := fun as μ' => as = [.d (.mref b)] ∧ μ' = μ2.put b (.lst (qs.map fD))) (ax_consD (ev_v rfl) (ax_nil' ⟨rfl, rfl⟩)) (X := fun d μ' => ∃ c ys, d = .mref c ∧ PostOr ⟨b, qs⟩ (μ2.put b (.lst (qs.map fD))) c ys μ') fun as μ' ⟨e1, e2⟩ => ⟨⟨b, qs⟩, e1, ⟨by rw [e2]; exact Mu.put_same _ _ _, Nat.le_trans (show qs.length ≤ 2000 by omega) (by decide), by show qs.length ≤ 2000; omega, fun q hq => isgap_small w ((iv.done q).mp hq)⟩, fun d μ'' z => by rw [← e2]; exact z⟩) fun d μ' ⟨c, ys, e, po⟩ => ⟨c, _, e, po.mb, id, rfl, ys, rfl, po.sorted, fun q => by rw [po.mem]; exact iv.done q, by rw [po.len]; show qs.length ≤ 2000; omega⟩
theorem run_gaps (hn : NoughtOk K) : ∀ vs H Q E, sp_gaps K vs H Q E → t_gaps K Pg wd { nx := fun _ H' => Q .non H', rt := Q } (L2.start ["rounds", "found", "name", "row", "due", "number", "rows"] vs) H := sp_runX 7 rfl fun lk _ x h => st_gaps hn lk x h
end
end RF

set_option Elab.async false
set_option linter.all false
set_option maxRecDepth 100000
set_option maxHeartbeats 4000000
set_option autoImplicit false
set_option exponentiation.threshold 6000
namespace RF
open PySem L2
/-! ### the least unfairness of any way on -/
structure IsLeast (R : Rounds) (ps : List Str) (v : Rat) : Prop where
  way : ∃ ws, Way R ps ws ∧ unfQ R ws = v
  low : ∀ ws, Way R ps ws → v ≤ unfQ R ws
noncomputable def leastQ (R : Rounds) (ps : List Str) : Rat := Classical.epsilon fun v => IsLeast R ps v
theorem leastQ_eq {R : Rounds} {ps : List Str} {v : Rat} (h : IsLeast R ps v) : leastQ R ps = v := by
  have z : IsLeast R ps (leastQ R ps) := Classical.epsilon_spec ⟨v, h⟩
  obtain ⟨a, ha, ea⟩ := h.way
  obtain ⟨b, hb, eb⟩ := z.way
  have h1 := z.low a ha
  have h2 := h.low b hb
  rw [ea] at h1
  rw [eb] at h2
  exact Rat.le_antisymm h1 h2
theorem way_ext {R : Rounds} (w : Wf R) : ∀ (n : Nat) (ps : List Str), Pays R ps → R.length - ps.length = n → ∃ ws, Way R ps ws
  | 0, ps, h, e => ⟨ps, by have := h.1; omega, h, List.take_length⟩
  | n + 1, ps, h, e => by
    have hr : R[ps.length]? = some R[ps.length] := List.getElem?_eq_getElem (by omega)
    obtain ⟨s, hs⟩ := List.exists_mem_of_ne_nil _ (can_ne (w.rows _ (List.getElem_mem (by omega : ps.length < R.length))))
    obtain ⟨ws, hw⟩ := way_ext w n (ps ++ [s]) (h.snoc hr hs) (by rw [List.length_append, List.length_singleton]; omega)
    refine ⟨ws, hw.len, hw.pays, ?_⟩
    have := congrArg (List.take ps.length) hw.pre
    rw [List.take_take, List.length_append, List.length_singleton, Nat.min_eq_left (by omega), List.take_left'  rfl] at this
    exact this
theorem max_or (a b : Rat) : maxQ a b = a ∨ maxQ a b = b := by unfold maxQ; split <;> simp
theorem row_is {R : Rounds} {ps : List Str} {s : Str} (n : Nat) (q : Rat) : unfRow R ps s q n = q ∨ ∃ k, k < n ∧ unfRow R ps s q n = gapQ R ps s k := by
  induction n with
  | zero => exact .inl rfl
  | succ n ih =>
    rw [row_succ]
    rcases max_or (unfRow R ps s q n) (gapQ R ps s n) with e | e
    · rw [e]
      rcases ih with z | ⟨k, hk, z⟩
      · exact .inl z
      · exact .inr ⟨k, by omega, z⟩
    · exact .inr ⟨n, by omega, e⟩
theorem unf_is {R : Rounds} {ps : List Str} (ns : List Str) : ∀ q : Rat, ns.foldl (fun q s => unfRow R ps s q ps.length) q = q ∨ ∃ s ∈ ns, ∃ k, k < ps.length ∧ ns.foldl (fun q s => unfRow R ps s q ps.length) q = gapQ R ps s k := by
  induction ns with
  | nil => exact fun q => .inl rfl
  | cons s ns ih =>
    intro q
    rw [List.foldl_cons]
    rcases ih (unfRow R ps s q ps.length) with e | ⟨t, ht, k, hk, e⟩
    · rw [e]
      rcases row_is (R := R) (ps := ps) (s := s) ps.length q with z | ⟨k, hk, z⟩
      · exact .inl z
      · exact .inr ⟨s, by simp, k, hk, z⟩
    · exact .inr ⟨t, by simp [ht], k, hk, e⟩
theorem unf_isgap {R : Rounds} {ps : List Str} (h : ps.length ≤ R.length) : IsGap R (unfQ R ps) := by
  rcases unf_is (R := R) (ps := ps) (namesQ R) 0 with e | ⟨s, hs, k, hk, e⟩
  · exact .inl e
  · refine .inr ⟨s, hs, k, by omega, paidQ ps s (k + 1), ?_, e⟩
    have h1 : (ps.take (k + 1)).count s ≤ (ps.take (k + 1)).length := List.count_le_length
    have h2 : (ps.take (k + 1)).length ≤ ps.length := by rw [List.length_take]; omega
    unfold paidQ
    omega
theorem kept_mono {R : Rounds} (w : Wf R) {ps : List Str} (hp : ps.length ≤ R.length) {a b : Rat} (ha : 0 ≤ a) (h : a ≤ b) (k : keptB (R, ps, a) = true) : keptB (R, ps, b) = true := by
  obtain ⟨ws, hw, hu⟩ := (kept_iff w hp ha).mp k
  exact (kept_iff w hp (Rat.le_trans ha h)).mpr ⟨ws, hw, Rat.le_trans hu h⟩
theorem abs_nonneg (q : Rat) : 0 ≤ absQ q := by
  unfold absQ
  split <;> grind
theorem isgap_nonneg {R : Rounds} {q : Rat} (h : IsGap R q) : 0 ≤ q := by
  rcases h with rfl | ⟨s, hs, k, hk, n, hn, rfl⟩
  · exact Rat.le_refl
  · exact abs_nonneg _
/-- the first gap that is kept -/
theorem least_of {R : Rounds} (w : Wf R) {ps : List Str} (hp : ps.length ≤ R.length) {qs : List Rat} (g : ∀ q, q ∈ qs ↔ IsGap R q) {v : Rat} (hv : v ∈ qs) (hk : keptB (R, ps, v) = true) (hlow : ∀ q ∈ qs, keptB (R, ps, q) = true → v ≤ q) : IsLeast R ps v := by
  have v0 := isgap_nonneg ((g v).mp hv)
  have low : ∀ ws, Way R ps ws → v ≤ unfQ R ws := fun ws hw => by
    have ig : IsGap R (unfQ R ws) := unf_isgap (by rw [hw.len]; exact Nat.le_refl _)
    exact hlow _ ((g _).mpr ig) ((kept_iff w hp (isgap_nonneg ig)).mpr ⟨ws, hw, Rat.le_refl⟩)
  obtain ⟨ws, hw, hu⟩ := (kept_iff w hp v0).mp hk
  exact ⟨⟨ws, hw, Rat.le_antisymm hu (low ws hw)⟩, low⟩
theorem min_of (p : Rat → Prop) : ∀ qs : List Rat, (∃ q ∈ qs, p q) → ∃ v ∈ qs, p v ∧ ∀ q ∈ qs, p q → v ≤ q
  | [], h => by obtain ⟨q, hq, _⟩ := h; cases hq
  | x :: qs, h => by
    by_cases hx : ∃ q ∈ qs, p q
    · obtain ⟨v, hv, pv, lv⟩ := min_of p qs hx
      by_cases px : p x ∧ x ≤ v
      · refine ⟨x, by simp, px.1, fun q hq pq => ?_⟩
        rcases List.mem_cons.mp hq with e | e
        · rw [e]; exact Rat.le_refl
        · exact Rat.le_trans px.2 (lv q e pq)
      · refine ⟨v, by simp [hv], pv, fun q hq pq => ?_⟩
        rcases List.mem_cons.mp hq with e | e
        · subst e
          apply Rat.not_lt.mp
          intro z
          exact px ⟨pq, Rat.le_of_lt z⟩
        · exact lv q e pq
    · obtain ⟨q, hq, pq⟩ := h
      rcases List.mem_cons.mp hq with e | e
      · subst e
        refine ⟨q, by simp, pq, fun r hr pr => ?_⟩
        rcases List.mem_cons.mp hr with e | e
        · rw [e]; exact Rat.le_refl
        · exact absurd ⟨r, e, pr⟩ hx
      · exact absurd ⟨q, e, pq⟩ hx
def allGaps (R : Rounds) : List Rat := 0 :: (namesQ R).flatMap fun s => (List.range R.length).flatMap fun k => (List.range (R.length + 1)).map fun n => gapT R s k n
theorem allGaps_mem {R : Rounds} {q : Rat} : q ∈ allGaps R ↔ IsGap R q := by
  unfold allGaps IsGap
  simp only [List.mem_cons, List.mem_flatMap, List.mem_map, List.mem_range]
  constructor
  · rintro (e | ⟨s, hs, k, hk, n, hn, e⟩)
    · exact .inl e
    · exact .inr ⟨s, hs, k, hk, n, by omega, e.symm⟩
  · rintro (e | ⟨s, hs, k, hk, n, hn, e⟩)
    · exact .inl e
    · exact .inr ⟨s, hs, k, hk, n, by omega, e.symm⟩
theorem kept_some {R : Rounds} (w : Wf R) {ps : List Str} (h : Pays R ps) : ∃ q, IsGap R q ∧ keptB (R, ps, q) = true := by
  obtain ⟨ws, hw⟩ := way_ext w _ ps h rfl
  have ig : IsGap R (unfQ R ws) := unf_isgap (by rw [hw.len]; exact Nat.le_refl _)
  exact ⟨_, ig, (kept_iff w h.1 (isgap_nonneg ig)).mpr ⟨ws, hw, Rat.le_refl⟩⟩
theorem least_is {R : Rounds} (w : Wf R) {ps : List Str} (h : Pays R ps) : IsLeast R ps (leastQ R ps) := by
  obtain ⟨q, ig, hk⟩ := kept_some w h
  obtain ⟨v, hv, pv, lv⟩ := min_of (fun q => keptB (R, ps, q) = true) (allGaps R) ⟨q, allGaps_mem.mpr ig, hk⟩
  have z := least_of w h.1 (fun q => allGaps_mem) hv pv lv
  rw [leastQ_eq z]
  exact z
theorem least_gap {R : Rounds} (w : Wf R) {ps : List Str} (h : Pays R ps) : IsGap R (leastQ R ps) := by
  obtain ⟨ws, hw, e⟩ := (least_is w h).way
  rw [← e]
  exact unf_isgap (by rw [hw.len]; exact Nat.le_refl _)
theorem least_nonneg {R : Rounds} (w : Wf R) {ps : List Str} (h : Pays R ps) : 0 ≤ leastQ R ps := isgap_nonneg (least_gap w h)
theorem least_small {R : Rounds} (w : Wf R) {ps : List Str} (h : Pays R ps) : Small (leastQ R ps) := isgap_small w (least_gap w h)
/-- a bound is kept just from the least on -/
theorem kept_least {R : Rounds} (w : Wf R) {ps : List Str} (h : Pays R ps) {b : Rat} (hb : 0 ≤ b) : keptB (R, ps, b) = true ↔ leastQ R ps ≤ b := by
  have z := least_is w h
  rw [kept_iff w h.1 hb]
  constructor
  · rintro ⟨ws, hw, hu⟩
    exact Rat.le_trans (z.low ws hw) hu
  · intro hl
    obtain ⟨ws, hw, e⟩ := z.way
    exact ⟨ws, hw, by rw [e]; exact hl⟩
section
variable {K : PySem.W.Frag} {lk : Bool}
/-! ### least -/
def encLe (x : RP) : List Ar := encRP x
def preLe (x : RP) : Prop := WfK x.1 ∧ Pays x.1 x.2
def sp_least (K : PySem.W.Frag) : Sp := spP K false encRP preLe (fun x d => d = fD (leastQ x.1 x.2))
/-- slots: 0 rounds, 1 payers, 2 some, 3 low, 4 high, 5 middle -/
def t_least (K : PySem.W.Frag) : TS := (tSeq (tAsg (tCall (sp_gaps K) [] E0 (tCons (tVar 0) tNil)) (gName 2)) (tSeq (tPar 3 4 (tCons (tC (.int 0)) (tCons (tOp rSubI (tCB (rLenU K) (tCons (tVar 2) tNil)) (tC (.int 1))) tNil))) (tSeq (tWhile (tTest (tOp (rLtU K) (tVar 3) (tVar 4))) (tSeq (tAsg (tOp rDivI (tOp (rAddU K) (tVar 3) (tVar 4)) (tC (.int 2))) (gName 5)) (tIfS (tB (tCall (sp_is_kept K) [] E0 (tCons (tVar 0) (tCons (tVar 1) (tCons (rIxU K (tVar 2) (tVar 5)) tNil))))) (tAsg (tVar 5) (gName 4)) (tAsg (tOp (rAddU K) (tVar 5) (tC (.int 1))) (gName 3))))) (tRet (rIxU K (tVar 2) (tVar 3))))))
theorem pw_get {qs : List Rat} (h : qs.Pairwise (· ≤ ·)) {i j : Nat} {p q : Rat} (hi : qs[i]? = some p) (hj : qs[j]? = some q) (hij : i ≤ j) : p ≤ q := by
  obtain ⟨h1, e1⟩ := List.getElem?_eq_some_iff.mp hi
  obtain ⟨h2, e2⟩ := List.getElem?_eq_some_iff.mp hj
  by_cases e : i = j
  · subst e
    rw [← e1, ← e2]
    exact Rat.le_refl
  · have := List.pairwise_iff_getElem.mp h i j h1 h2 (by omega)
    rw [e1, e2] at this
    exact this
theorem st_least (lk : Bool) (x : RP) (h : preLe x) : StS K lk (t_least K) (startS 6 (encRP x)) (Fn fun d => d = fD (leastQ x.1 x.2)) := by
  obtain ⟨R, ps⟩ := x
  obtain ⟨wk, hp⟩ := h
  dsimp only at wk hp ⊢
  have w := wk.w
  refine st_let (ev_call R (ea_cons (ev_v rfl) ea_nil) wk) fun d ⟨qs, e, g⟩ => ?_
  subst e
  have hl := g.len
  have h0 : 0 < qs.length := List.length_pos_of_mem ((g.mem 0).mpr (.inl rfl))
  refine st_parq (a := .int 0) (b := .int ((qs.length - 1 : Nat) : Int)) (ea_cons ev_int (ea_cons (ev_is (ev_sub (eu_lenL (ev_v rfl)) ev_int) (by rw [List.length_map]; congr 1 <;> omega)) ea_nil)) ?_
  refine st_seq (fun ρ => ∃ lo x4 x5 q, ρ = [.dat (rsD R), .dat (.tf ps), .dat (.lst (qs.map fD)), .dat (.int ((lo : Nat) : Int)), x4, x5] ∧ qs[lo]? = some q ∧ keptB (R, ps, q) = true ∧ ∀ i, i < lo → ∀ q, qs[i]? = some q → keptB (R, ps, q) = false)
    (st_while (fun m ρ => ∃ lo hi x5 q, ρ = [.dat (rsD R), .dat (.tf ps), .dat (.lst (qs.map fD)), .dat (.int ((lo : Nat) : Int)), .dat (.int ((hi : Nat) : Int)), x5] ∧ m = hi - lo ∧ lo ≤ hi ∧ hi < qs.length ∧ qs[hi]? = some q ∧ keptB (R, ps, q) = true ∧ ∀ i, i < lo → ∀ q, qs[i]? = some q → keptB (R, ps, q) = false)
      (qs.length - 1 - 0) ⟨0, qs.length - 1, _, qs[qs.length - 1], rfl, rfl, by omega, by omega, List.getElem?_eq_getElem (by omega), ?_, fun i hi => absurd hi (Nat.not_lt_zero i)⟩ ?_) ?_
  · obtain ⟨q, ig, hk⟩ := kept_some w hp
    obtain ⟨i, hi, e⟩ := List.mem_iff_getElem.mp ((g.mem q).mpr ig)
    exact kept_mono w hp.1 (isgap_nonneg ig) (pw_get g.sorted (i := i) (j := qs.length - 1) (by rw [List.getElem?_eq_getElem hi, e]) (List.getElem?_eq_getElem (by omega)) (by omega)) hk
  · rintro m ρ ⟨lo, hi, x5, q, rfl, rfl, h1, h2, h3, h4, h5⟩
    refine ⟨decide ((lo : Int) < (hi : Int)), et_test (eu_lt (ev_v rfl) (ev_v rfl)), fun hb => ?_, fun hb => ?_⟩
    · have hb : lo < hi := by have := of_decide_eq_true hb; omega
      refine st_letD (d := .int (((lo + hi) / 2 : Nat) : Int)) (ev_is (ev_divW (eu_add (ev_v rfl) (ev_v rfl)) ev_int (div_w (b := 5) (by decide) (by decide) (by decide))) (by congr 1 <;> omega)) ?_
      have hm : (lo + hi) / 2 < qs.length := by omega
      have hq : qs[(lo + hi) / 2]? = some qs[(lo + hi) / 2] := List.getElem?_eq_getElem hm
      have ig : IsGap R qs[(lo + hi) / 2] := (g.mem _).mp (List.getElem_mem hm)
      refine st_if (et_B (ev_call ((R, ps, qs[(lo + hi) / 2]) : KeA) (ea_cons (ev_v rfl) (ea_cons (ev_v rfl) (ea_cons (eu_ixL (d := fD qs[(lo + hi) / 2]) (ev_v rfl) (ev_v rfl) (atI_nat (by rw [List.getElem?_map, hq]; rfl))) ea_nil))) ⟨wk, isgap_small w ig⟩)) (fun hk => ?_) fun hk => ?_
      · refine st_asg (P := fun d => d = .int (((lo + hi) / 2 : Nat) : Int)) (ev_v rfl) fun d e => ?_
        subst e
        exact ⟨(lo + hi) / 2 - lo, by omega, lo, (lo + hi) / 2, _, _, rfl, rfl, by omega, hm, hq, hk, h5⟩
      · refine st_asg (P := fun d => d = .int (((lo + hi) / 2 + 1 : Nat) : Int)) (ev_is (eu_add (ev_v rfl) ev_int) (by simp)) fun d e => ?_
        subst e
        refine ⟨hi - ((lo + hi) / 2 + 1), by omega, (lo + hi) / 2 + 1, hi, _, q, rfl, rfl, by omega, h2, h3, h4, fun i hi' p ep => ?_⟩
        have hle := pw_get g.sorted ep hq (by omega)
        have igp : IsGap R p := (g.mem _).mp (List.mem_of_getElem? ep)
        cases hkp : keptB (R, ps, p) with
        | false => rfl
        | true => rw [kept_mono w hp.1 (isgap_nonneg igp) hle hkp] at hk; cases hk
    · have hb : lo = hi := by have := of_decide_eq_false hb; omega
      subst hb
      exact ⟨lo, _, _, q, rfl, h3, h4, h5⟩
  · rintro ρ ⟨lo, x4, x5, q, rfl, h3, h4, h5⟩
    refine st_ret (P := fun d => d = fD q) (eu_ixL (ev_v rfl) (ev_v rfl) (atI_nat (by rw [List.getElem?_map, h3]; rfl))) fun d e => ?_
    show d = fD (leastQ R ps)
    rw [e, leastQ_eq (least_of w hp.1 g.mem (List.mem_of_getElem? h3) h4 fun p hpm hkp => ?_)]
    obtain ⟨i, hi, ei⟩ := List.mem_iff_getElem.mp hpm
    have hpi : qs[i]? = some p := by rw [List.getElem?_eq_getElem hi, ei]
    by_cases hil : i < lo
    · rw [h5 i hil p hpi] at hkp; cases hkp
    · exact pw_get g.sorted h3 hpi (by omega)
theorem run_least : ∀ vs H Q E, sp_least K vs H Q E → t_least K { nx := fun _ H' => Q .non H', rt := Q } (L2.start ["rounds", "payers", "some", "low", "high", "middle"] vs) H := sp_run 6 rfl fun lk _ x h => st_least lk x h
/-! ### best -/
noncomputable def pickK (R : Rounds) (b : Rat) (ps : List Str) (cs : List Str) : Str := match cs.find? fun s => keptB (R, ps ++ [s], b) with
  | some s => s
  | none => cs.getLastD ""
noncomputable def stepW (R : Rounds) (b : Rat) (ps : List Str) : List Str := match R[ps.length]? with
  | some r => ps ++ [pickK R b ps (canQ r)]
  | none => ps
noncomputable def bestTo (R : Rounds) (b : Rat) (ps : List Str) : Nat → List Str
  | 0 => ps
  | n + 1 => stepW R b (bestTo R b ps n)
noncomputable def bestW (R : Rounds) (ps : List Str) : List Str := bestTo R (leastQ R ps) ps (R.length - ps.length)
theorem bestTo_len {R : Rounds} {b : Rat} {ps : List Str} : ∀ n, ps.length + n ≤ R.length → (bestTo R b ps n).length = ps.length + n
  | 0, _ => rfl
  | n + 1, h => by
    have ih := bestTo_len (R := R) (b := b) (ps := ps) n (by omega)
    show (stepW R b (bestTo R b ps n)).length = _
    unfold stepW
    rw [ih, List.getElem?_eq_getElem (by omega)]
    show (_ ++ [_]).length = _
    rw [List.length_append, ih, List.length_singleton]
    omega
def sp_best (K : PySem.W.Frag) : Sp := spP K false encRP preLe (fun x d => d = .tf (bestW x.1 x.2))
/-- slots: 0 rounds, 1 payers, 2 bound, 3 name -/
def t_best (K : PySem.W.Frag) : TS := (tSeq (tAsg (tCall (sp_least K) [] E0 (tCons (tVar 0) (tCons (tVar 1) tNil))) (gName 2)) (tSeq (tWhile (tTest (tOp (rLtU K) (tCB (rLenU K) (tCons (tVar 1) tNil)) (tCB (rLenU K) (tCons (tVar 0) tNil)))) (tSeq (tFor (iSeq K (tCall (sp_who_can K) [] E0 (tCons (rIxU K (tVar 0) (tCB (rLenU K) (tCons (tVar 1) tNil))) tNil))) (gName 3) (tIfS (tB (tCall (sp_is_kept K) [] E0 (tCons (tVar 0) (tCons (tOp (rAddU K) (tVar 1) (tTupU (tCons (tVar 3) tNil))) (tCons (tVar 2) tNil))))) tBreak tNext)) (tAsg (tOp (rAddU K) (tVar 1) (tTupU (tCons (tVar 3) tNil))) (gName 1)))) (tRet (tVar 1))))
theorem find_take {cs : List Str} {f : Str → Bool} {j : Nat} {s : Str} (hj : cs[j]? = some s) (hn : ∀ t ∈ cs.take j, f t = false) (hs : f s = true) : cs.find? f = some s := by
  obtain ⟨hl, e⟩ := List.getElem?_eq_some_iff.mp hj
  have : cs = cs.take j ++ s :: cs.drop (j + 1) := by
    rw [← e, ← List.drop_eq_getElem_cons hl, List.take_append_drop]
  rw [this, List.find?_append]
  have z : (cs.take j).find? f = none := List.find?_eq_none.mpr fun t ht => by rw [hn t ht]; exact Bool.false_ne_true
  rw [z, List.find?_cons, hs]
  rfl
theorem st_best (lk : Bool) (x : RP) (h : preLe x) : StS K lk (t_best K) (startS 4 (encRP x)) (Fn fun d => d = .tf (bestW x.1 x.2)) := by
  obtain ⟨R, ps⟩ := x
  obtain ⟨wk, hp⟩ := h
  dsimp only at wk hp ⊢
  have w := wk.w
  have hl := w.len
  have hp1 := hp.1
  have sb := least_small w hp
  refine st_letD (d := fD (leastQ R ps)) (ev_call ((R, ps) : RP) (ea_cons (ev_v rfl) (ea_cons (ev_v rfl) ea_nil)) ⟨wk, hp⟩) ?_
  refine st_seq (fun ρ => ∃ x3, ρ = [.dat (rsD R), .dat (.tf (bestW R ps)), .dat (fD (leastQ R ps)), x3]) (st_while (fun m ρ => ∃ n x3, ρ = [.dat (rsD R), .dat (.tf (bestTo R (leastQ R ps) ps n)), .dat (fD (leastQ R ps)), x3] ∧ ps.length + n ≤ R.length ∧ m = R.length - ps.length - n) (R.length - ps.length - 0) ⟨0, _, rfl, by omega, rfl⟩ ?_) fun ρ ⟨x3, e⟩ => by
    subst e
    exact st_ret (ev_v rfl) fun d e => e
  rintro m ρ ⟨n, x3, rfl, hn, rfl⟩
  have bl := bestTo_len (R := R) (b := leastQ R ps) (ps := ps) n hn
  generalize hbs : bestTo R (leastQ R ps) ps n = bs at bl
  refine ⟨decide ((bs.length : Int) < (R.length : Int)), et_test (eu_lt (ev_is (eu_lenT (ev_tf (ev_v rfl))) (by rw [List.length_map])) (ev_lenR (R := R) (ev_v rfl))), fun hb => ?_, fun hb => ?_⟩
  · have hb : bs.length < R.length := by have := of_decide_eq_true hb; omega
    have hr : R[bs.length]? = some R[bs.length] := List.getElem?_eq_getElem hb
    generalize hrr : R[bs.length] = r at hr
    have wr := w.rows r (List.mem_of_getElem? hr)
    have hne := can_ne wr
    refine st_seq (fun ρ => ρ = [.dat (rsD R), .dat (.tf bs), .dat (fD (leastQ R ps)), .dat (.str (pickK R (leastQ R ps) bs (canQ r)))]) (st_forD (js := [3]) (is_lst (ev_canQ rfl (eu_ixT (ev_v rfl) (ev_is (eu_lenT (ev_tf (ev_v rfl))) (by rw [List.length_map])) (at_row hr)) wr.len)) (fun j ρ => ∃ x3, ρ = [.dat (rsD R), .dat (.tf bs), .dat (fD (leastQ R ps)), x3] ∧ (∀ t ∈ (canQ r).take j, keptB (R, bs ++ [t], leastQ R ps) = false) ∧ (∀ s, 0 < j → (canQ r)[j - 1]? = some s → x3 = .dat (.str s))) ⟨_, rfl, (by simp), fun s h => absurd h (by omega)⟩ (fun j y ρ1 hy iv => ?_) fun ρ' iv => ?_) fun ρ e => ?_
    · obtain ⟨x3, rfl, h1, _⟩ := iv
      rw [List.getElem?_map] at hy
      cases hg : (canQ r)[j]? with
      | none => rw [hg] at hy; cases hy
      | some s =>
        rw [hg] at hy
        have hy : D.str s = y := Option.some.inj hy
        subst hy
        refine ⟨_, tg_name, ?_⟩
        refine st_if (et_B (ev_call ((R, bs ++ [s], leastQ R ps) : KeA) (ea_cons (ev_v rfl) (ea_cons (eu_catF (ev_v rfl) (eu_tupF [s] (ea_cons (ev_v rfl) ea_nil)) (by rw [List.length_singleton]; omega)) (ea_cons (ev_v rfl) ea_nil))) ⟨wk, sb⟩)) (fun hk => ?_) fun hk => ?_
        · refine st_break ?_
          show _ = _
          unfold pickK
          rw [find_take hg h1 hk]
          rfl
        · refine st_next ⟨.dat (.str s), rfl, fun t ht => ?_, fun u _ hu => ?_⟩
          · rw [take_succ_of hg] at ht
            rcases List.mem_append.mp ht with z | z
            · exact h1 t z
            · rw [show t = s by simpa using z]; exact hk
          · rw [show j + 1 - 1 = j by omega, hg] at hu
            cases hu
            rfl
    · obtain ⟨x3, rfl, h1, h2⟩ := iv
      rw [List.length_map, List.take_length] at h1
      rw [List.length_map] at h2
      have hpos : 0 < (canQ r).length := List.length_pos_iff.mpr hne
      have hlast : (canQ r)[(canQ r).length - 1]? = some ((canQ r)[(canQ r).length - 1]) := List.getElem?_eq_getElem (by omega)
      show _ = _
      rw [h2 _ hpos hlast]
      have e1 : (canQ r).find? (fun s => keptB (R, bs ++ [s], leastQ R ps)) = none := List.find?_eq_none.mpr fun t ht => by rw [h1 t ht]; exact Bool.false_ne_true
      unfold pickK
      rw [e1]
      show _ = [_, _, _, Sl.dat (.str ((canQ r).getLastD ""))]
      rw [List.getLastD_eq_getLast?, List.getLast?_eq_getElem?, hlast]
      rfl
    · subst e
      refine st_asg (eu_catF (ev_v rfl) (eu_tupF [pickK R (leastQ R ps) bs (canQ r)] (ea_cons (ev_v rfl) ea_nil)) (by rw [List.length_singleton]; omega)) fun d e => ⟨R.length - ps.length - (n + 1), by omega, n + 1, .dat (.str (pickK R (leastQ R ps) bs (canQ r))), ?_, by omega, rfl⟩
      subst e
      have es : bestTo R (leastQ R ps) ps (n + 1) = bs ++ [pickK R (leastQ R ps) bs (canQ r)] := by
        show stepW R (leastQ R ps) (bestTo R (leastQ R ps) ps n) = _
        unfold stepW
        rw [hbs, hr]
      rw [es]
      rfl
  · have hb : R.length ≤ bs.length := by have := of_decide_eq_false hb; omega
    refine ⟨x3, ?_⟩
    rw [← hbs]
    unfold bestW
    rw [show R.length - ps.length = n by omega]
theorem run_best : ∀ vs H Q E, sp_best K vs H Q E → t_best K { nx := fun _ H' => Q .non H', rt := Q } (L2.start ["rounds", "payers", "bound", "name"] vs) H := sp_run 4 rfl fun lk _ x h => st_best lk x h
/-! ### next_ones -/
noncomputable def nextQ (R : Rounds) (ps : List Str) (b : Rat) : List Str := match R[ps.length]? with
  | some r => (canQ r).filter fun s => keptB (R, ps ++ [s], b)
  | none => []
def sp_next_ones (K : PySem.W.Frag) : Sp := spP K false encKe (fun x => preKe x ∧ x.2.1.length < x.1.length) (fun x d => d = .tf (nextQ x.1 x.2.1 x.2.2))
/-- slots: 0 rounds, 1 payers, 2 bound, 3 name -/
def t_next_ones (K : PySem.W.Frag) : TS := (tRet (tCB (rTupU K) (tCons (tLc (iSeq K (tCall (sp_who_can K) [] E0 (tCons (rIxU K (tVar 0) (tCB (rLenU K) (tCons (tVar 1) tNil))) tNil))) (gName 3) (tB (tCall (sp_is_kept K) [] E0 (tCons (tVar 0) (tCons (tOp (rAddU K) (tVar 1) (tTupU (tCons (tVar 3) tNil))) (tCons (tVar 2) tNil))))) (tVar 3) [3]) tNil)))
theorem ev_forStr {wi : TI} {tt : TT} {te : TE} {ρ : List Sl} {i : Nat} {ns : List Str} (h : ItS K lk wi ρ (fun ys => ys = ns.map D.str)) (hl : ns.length ≤ 1000) (f : Str → Bool) (v : Str → D) (turn : ∀ s ∈ ns, EvB K lk tt ((wipeS ρ [i]).set i (.dat (.str s))) (f s) ∧ (f s = true → EvD K lk te ((wipeS ρ [i]).set i (.dat (.str s))) (v s))) : EvD K lk (tLc wi (gName i) tt te [i]) ρ (.lst ((ns.filter f).map v)) := by
  refine ev_lc (js := [i]) h (fun _ k ys => ys = ((ns.take k).filter f).map v) (fun _ _ => by simp) (fun xs e => by rw [show xs = _ from e, List.length_map]; omega) (fun j hj => hj) (fun xs k x ys e hx ha => ?_) fun xs ys e ha => ?_
  · rw [show xs = _ from e, List.getElem?_map] at hx
    cases hg : ns[k]? with
    | none => rw [hg] at hx; cases hx
    | some g =>
      rw [hg] at hx
      have hx : D.str g = x := Option.some.inj hx
      subst hx
      obtain ⟨t1, t2⟩ := turn g (List.mem_of_getElem? hg)
      refine ⟨_, _, tg_name, t1, fun z => ?_, fun z => (t2 z.symm).imp fun d ed => ?_⟩
      · rw [filter_take_succ f v hg, if_neg (by rw [← z]; decide), List.append_nil]; exact ha
      · rw [filter_take_succ f v hg, if_pos z.symm, ha, ed]
  · rw [show xs = _ from e, List.length_map, List.take_length] at ha
    rw [ha]
theorem can_len (r : Row) : (canQ r).length ≤ r.length := by
  unfold canQ
  rw [List.length_map]
  exact List.length_filter_le _ _
theorem st_next_ones (lk : Bool) (x : KeA) (h : preKe x ∧ x.2.1.length < x.1.length) : StS K lk (t_next_ones K) (startS 4 (encKe x)) (Fn fun d => d = .tf (nextQ x.1 x.2.1 x.2.2)) := by
  obtain ⟨R, ps, b⟩ := x
  obtain ⟨⟨wk, sb⟩, hl⟩ := h
  dsimp only at wk sb hl ⊢
  have w := wk.w
  have hr : R[ps.length]? = some R[ps.length] := List.getElem?_eq_getElem hl
  have wr := w.rows _ (List.getElem_mem hl)
  have h20 := w.len
  have hc := can_len R[ps.length]
  have h8 := wr.len
  refine st_ret (eu_tfL (ss := nextQ R ps b) (ev_is (ev_forStr (ns := canQ R[ps.length]) (is_lst (ev_canQ rfl (eu_ixT (ev_v rfl) (ev_is (eu_lenT (ev_tf (ev_v rfl))) (by rw [List.length_map])) (at_row hr)) wr.len)) (by omega) (fun s => keptB (R, ps ++ [s], b)) D.str fun s hs => ⟨?_, fun _ => ev_v rfl⟩) ?_)) fun d e => e
  · exact et_B (ev_call ((R, ps ++ [s], b) : KeA) (ea_cons (ev_v rfl) (ea_cons (eu_catF (ev_v rfl) (eu_tupF [s] (ea_cons (ev_v rfl) ea_nil)) (by rw [List.length_singleton]; omega)) (ea_cons (ev_v rfl) ea_nil))) ⟨wk, sb⟩)
  · unfold nextQ
    rw [hr]
theorem run_next_ones : ∀ vs H Q E, sp_next_ones K vs H Q E → t_next_ones K { nx := fun _ H' => Q .non H', rt := Q } (L2.start ["rounds", "payers", "bound", "name"] vs) H := sp_run 4 rfl fun lk _ x h => st_next_ones lk x h
end
end RF

set_option Elab.async false
set_option linter.all false
set_option maxRecDepth 100000
set_option maxHeartbeats 4000000
set_option autoImplicit false
set_option exponentiation.threshold 6000
namespace RF
open PySem L2
/-! ### what several laws need -/
def G6 : List Str := ["ann", "bob", "cy", "dee", "eve", "fay"]
theorem gs6 : Gs G6 := ⟨by decide, by decide, by decide +kernel, by decide +kernel⟩
theorem Gs.take {G : List Str} (h : Gs G) {n : Nat} (hn : 1 ≤ n) : Gs (G.take n) := by
  have := h.pos
  have := h.len
  refine ⟨by rw [List.length_take]; omega, by rw [List.length_take]; omega, (List.take_sublist n G).nodup h.nd, fun s hs => h.ok s (List.mem_of_mem_take hs)⟩
theorem names_in {G : List Str} {ac : Bool} {R : Rounds} (h : ∀ r ∈ R, RowOf G ac r) : (namesQ R).length ≤ G.length := nodup_sub_len (names_nodup R) (ys := G) fun s hs => by
  rw [names_mem] at hs
  unfold allN at hs
  obtain ⟨r, hr, hs⟩ := List.mem_flatMap.mp hs
  obtain ⟨g, hg, rfl⟩ := List.mem_map.mp hs
  exact (h r hr).inG g hg
theorem RsOf.wfk {G : List Str} {ac : Bool} {most : Nat} {R : Rounds} (h : RsOf G ac most R) (hG : Gs G) (hm : most ≤ 20) (hf : G.length * most ≤ 90) : WfK R where
  w := wf_of_rows hG (by have := h.len; omega) h.rows
  ne := fun e => by have := h.pos; rw [e] at this; simp at this
  few := Nat.le_trans (Nat.mul_le_mul (names_in h.rows) h.len) hf
section
variable {K : PySem.W.Frag} {lk : Bool} {ρ : List Sl} {ta tb te tg : TE} {P : D → Prop} {u : TS} {p : Po} {d : D}
theorem lk_frac (n : Nat) (q : Rat) : Lk (n + 1) (fD q) := ⟨by show 2 ≤ 1000; decide, fun x hx => by
  have : x = .int q.num ∨ x = .int (q.den : Int) := by simpa using hx
  rcases this with rfl | rfl <;> cases n <;> exact True.intro⟩
theorem lk_strs (n : Nat) {ss : List Str} (h : ss.length ≤ 1000) : Lk (n + 1) (.tup (ss.map D.str)) := ⟨by rw [List.length_map]; exact h, fun x hx => by
  obtain ⟨s, _, rfl⟩ := List.mem_map.mp hx
  cases n <;> exact True.intro⟩
/-- not like(x, x) is False -/
theorem et_like {t1 t2 : TE} (h1 : EvD K lk t1 ρ d) (h2 : EvD K lk t2 ρ d) (h : Lk 7 d) : EvB K lk (tNot (tB (tCall (sp_law_like K 7) [] E0 (tCons t1 (tCons t2 tNil))))) ρ false := et_not (a := true) (et_B (ev_call d (ea_cons h1 (ea_cons h2 ea_nil)) h))
theorem is_lstP {T : List D → Prop} (h : EvS K lk te ρ (fun d => ∃ xs, d = .lst xs ∧ T xs)) : ItS K lk (iSeq K te) ρ T := itr (itl fun w0 w σ s R k => h w0 w σ s _ fun v w1 d l1 ok1 r1 ⟨xs, e, tx⟩ => by
  subst e
  obtain ⟨a, vs, e, sq, r⟩ := r1
  refine ⟨a, e, ⟨vs, sqLH ok1 sq⟩, k _ w1 xs l1 ok1 tx ⟨fun i w' ok' sm hi => ?_, fun i w' v' H' ok' sm y x hx => ?_, fun w' ok' sm => ?_⟩⟩
  · have hi' : i < vs.length := by rw [r.length]; exact hi
    exact ⟨vs, vs[i], sqLH ok' (sqL_keeps (.of_same sm) sq), List.getElem?_eq_getElem hi'⟩
  · obtain ⟨e', y⟩ := y
    obtain ⟨u, hu, ru⟩ := r.get hx
    have z := y vs (sqLH ok' (sqL_keeps (.of_same sm) sq))
    rw [hu] at z
    cases z
    exact ⟨w', e'.symm, .refl w', ok', ru.mono sm⟩
  · exact ⟨vs, sqLH ok' (sqL_keeps (.of_same sm) sq), Nat.le_of_eq r.length⟩)
theorem ev_payers {i j : Nat} {R : Rounds} {most : Nat} (ht : ρ[i]? = some .tape) (hr : ρ[j]? = some (.dat (rsD R))) (hm : EvD K lk ta ρ (.int (most : Int))) (w : Wf R) (h : most ≤ 1000) : EvS K lk (tCall (sp_law_payers K) [] E0 (tCons (tVar i) (tCons (tVar j) (tCons ta tNil)))) ρ (fun d => ∃ ps, d = .tf ps ∧ Pays R ps ∧ ps.length ≤ most) :=
  ev_call' (fun h => Bool.noConfusion h) (ea_tape (C := fun as => as = [.d (rsD R), .d (.int (most : Int))]) (R := fun as => as = encPay (R, most)) ht (ea_cons (ev_v hr) (ea_cons hm ea_nil)) fun as e => by rw [e]; rfl) fun as e => ⟨(R, most), e, ⟨w, h⟩, fun d h => h⟩
/-- xs[:e], e drawn -/
theorem eu_toLP {A : Int → Prop} {xs : List D} (h : EvD K lk te ρ (.lst xs)) (hh : EvS K lk tb ρ (IntS A)) (hA : ∀ i, A i → 0 ≤ i) (hP : ∀ n : Nat, A (n : Int) → P (.lst (xs.take n))) : EvS K lk (tSl (slU K) te tNoPart (tPart tb)) ρ P := fun w0 w σ s Q g =>
  h w0 w σ s _ fun v w1 d l1 ok1 r1 e => (hh w0 w1 σ (s.mono l1 ok1) _ fun v2 w3 d2 l3 ok3 r3 ⟨i, e2, ai⟩ => by
    subst e2
    rw [show d = _ from e] at r1
    obtain ⟨n, rfl⟩ : ∃ n : Nat, i = n := ⟨i.toNat, by have := hA i ai; omega⟩
    refine ⟨(n : Int), r3, ?_⟩
    obtain ⟨a, vs, e, sq, r⟩ := r1
    have r' := r.mono l3.I
    have sq' := sqL_keeps (.of_same l3.I) sq
    have hp := hP n ai
    have ec : cutD xs none (some (n : Int)) = xs.take n := cutA_to xs n
    refine .inr (.inl ⟨a, vs, e, sqLH ok3 sq', fun p hn => ?_⟩)
    rw [← ec] at hp
    exact (g.up (l1.trans l3)).new (d := .lst (cutD xs none (some (n : Int)))) ok3 hn True.intro ⟨p, _, rfl, .inl (.inl upd_same), (r'.cut none (some (n : Int))).mono (same_new (notI ok3 hn))⟩ hp)
/-- _law_rounds(tape, most, guests, e) -/
theorem ev_rounds {i : Nat} {most : Nat} {A : List Str → Prop} {B : Bool → Prop} (ht : ρ[i]? = some .tape) (hm : EvD K lk ta ρ (.int (most : Int))) (hg : EvS K lk tg ρ (fun d => ∃ G : List Str, d = .lst (G.map D.str) ∧ A G)) (hb : EvS K lk tb ρ (fun d => ∃ b, d = .bl b ∧ B b)) (hG : ∀ G, A G → Gs G) (h1 : 1 ≤ most) (h2 : most ≤ 20) :
    EvS K lk (tCall (sp_law_rounds K) [] E0 (tCons (tVar i) (tCons ta (tCons tg (tCons tb tNil))))) ρ (fun d => ∃ R G b, d = rsD R ∧ A G ∧ B b ∧ RsOf G b most R) :=
  ev_call' (fun h => Bool.noConfusion h) (ea_tape (C := fun as => ∃ G b, as = [.d (.int (most : Int)), .d (.lst (G.map D.str)), .d (.bl b)] ∧ A G ∧ B b) (R := fun as => ∃ G b, as = encRounds (most, G, b) ∧ A G ∧ B b) ht
    (ea_cons' (A := fun d => d = .int (most : Int)) (C := fun as => ∃ G b, as = [.d (.lst (G.map D.str)), .d (.bl b)] ∧ A G ∧ B b) hm (ea_cons' (C := fun as => ∃ b, as = [.d (.bl b)] ∧ B b) hg (ea_cons' hb ea_nil fun d as ⟨b, e, h⟩ e2 => ⟨b, by rw [e, e2], h⟩) fun d as ⟨G, e, hG⟩ ⟨b, e2, h⟩ => ⟨G, b, by rw [e, e2], hG, h⟩) fun d as e ⟨G, b, e2, h⟩ => ⟨G, b, by rw [e, e2], h⟩)
    fun as ⟨G, b, e, h⟩ => ⟨G, b, by rw [e]; rfl, h⟩) fun as ⟨G, b, e, hA, h⟩ => ⟨(most, G, b), e, ⟨h1, h2, hG G hA⟩, fun d ⟨R, ed, hR⟩ => ⟨R, G, b, ed, hA, h, hR⟩⟩
/-- guests[:k + draw(n)] -/
theorem ev_some6 {i j : Nat} {k n : Int} (ht : ρ[i]? = some .tape) (hg : ρ[j]? = some (.dat (.lst (G6.map D.str)))) (hk : EvD K lk ta ρ (.int k)) (hn : EvD K lk te ρ (.int n)) (k1 : 1 ≤ k) (h0 : 0 < n) (h1 : n < 1000) : EvS K lk (tSl (slU K) (tVar j) tNoPart (tPart (tOp (rAddU K) ta (tCall (sp_law_draw K) [] E0 (tCons (tVar i) (tCons te tNil)))))) ρ (fun d => ∃ G : List Str, d = .lst (G.map D.str) ∧ Gs G ∧ ((G.length : Nat) : Int) < k + n) :=
  eu_toLP (A := fun m => k ≤ m ∧ m < k + n) (ev_v hg) (eu_addP (A := fun m => m = k) (ev_isP hk rfl) (ev_draw ht hn h0 (Int.lt_trans h1 (by decide))) fun a b ea hb => by omega) (fun m hm => by omega) fun m hm => ⟨G6.take m, by rw [List.map_take], gs6.take (by omega), by rw [List.length_take]; omega⟩
/-! ### are_payers -/
def sp_are_payers (K : PySem.W.Frag) : Sp := spP K false encRP (fun x => Wf x.1 ∧ Pays x.1 x.2) (fun x d => d = .bl true)
/-- slots: 0 rounds, 1 thing, 2 row, 3 name -/
def t_are_payers (K : PySem.W.Frag) : TS := (tSeq (tIfS (tOr (tNot (tB (tCB (rIsiU K) (tCons (tVar 1) (tCons (tC (.ty "tuple")) tNil))))) (tTest (tOp rGtI (tCB (rLenU K) (tCons (tVar 1) tNil)) (tCB (rLenU K) (tCons (tVar 0) tNil))))) (tRet (tC (.bl false))) tNext) (tRet (tCB (rAll K) (tCons (tLc (iZipU K (tCons (tVar 0) (tCons (tVar 1) tNil))) (gTup K 2 (gCons (gName 2) (gCons (gName 3) gNil))) tYes (tAndV (tCB (rIsiU K) (tCons (tVar 3) (tCons (tC (.ty "str")) tNil))) (rInU K (tVar 3) (tCall (sp_who_can K) [] E0 (tCons (tVar 2) tNil)))) [2, 3]) tNil))))
theorem st_are_payers (lk : Bool) (x : RP) (h : Wf x.1 ∧ Pays x.1 x.2) : StS K lk (t_are_payers K) (startS 4 (encRP x)) (Fn fun d => d = .bl true) := by
  obtain ⟨R, ps⟩ := x
  obtain ⟨w, hp⟩ := h
  dsimp only at w hp ⊢
  have hl := w.len
  have hp1 := hp.1
  refine st_ifq (b := false) (et_or (a := false) (b := false) (et_not (a := true) (et_B (ev_isi (d := .tf ps) (c := "tuple") (ev_v rfl) rfl (show kitB "tuple" "tuple" = some true by decide +kernel)))) fun _ => eb_is (et_test (ev_gt (ev_is (eu_lenT (ev_tf (ev_v rfl))) (by rw [List.length_map])) (ev_lenR (R := R) (ev_v rfl)))) (decide_eq_false (by show ¬ (R.length : Int) < (ps.length : Int); omega))) (fun z => Bool.noConfusion z) fun _ => st_nextq ?_
  refine st_ret (P := fun d => d = .bl true) (ev_is (eu_all (bs := List.replicate (min R.length ps.length) true) (ev_lc (js := [2, 3]) (it_zipT (ev_v (d := .tup (R.map rowD)) rfl) (ev_tf (ev_v rfl))) (fun _ i ys => ys = (List.replicate i true).map D.bl) (fun _ _ => rfl) (fun xs e => by rw [show xs = _ from e, zipD_len, List.length_map, List.length_map]; omega) (by decide) (fun xs i x ys e hx ha => ?_) fun xs ys e ha => ?_)) ?_) fun d e => e
  · rw [show xs = _ from e] at hx
    obtain ⟨x1, y1, h1, h2, rfl⟩ := zipD_inv hx
    obtain ⟨r, hr, rfl⟩ := get_row h1
    rw [List.getElem?_map] at h2
    cases hs : ps[i]? with
    | none => rw [hs] at h2; cases h2
    | some s =>
      rw [hs] at h2
      have h2 : D.str s = y1 := Option.some.inj h2
      subst h2
      have hc := hp.2 i r s hr hs
      have wr := w.rows r (List.mem_of_getElem? hr)
      refine ⟨_, _, tg_tup2, et_yes, (fun z => Bool.noConfusion z), fun _ => (ev_is (ev_andV (a := true) (b := true) (ev_isi (d := .str s) (c := "str") (ev_v rfl) rfl (show kitB "str" "str" = some true by decide +kernel)) fun _ => ev_is (eu_inS (s := s) (xs := canQ r) (ev_v rfl) (ev_canQ rfl (ev_v rfl) wr.len)) (by rw [decide_eq_true hc])) (y := .bl true) rfl).imp fun d ed => ?_⟩
      rw [ha, ed, List.replicate_succ', List.map_append]
      rfl
  · rw [show xs = _ from e, zipD_len, List.length_map, List.length_map] at ha
    rw [ha]
  · congr 1
    simp
theorem run_are_payers : ∀ vs H Q E, sp_are_payers K vs H Q E → t_are_payers K { nx := fun _ H' => Q .non H', rt := Q } (L2.start ["rounds", "thing", "row", "name"] vs) H := sp_run 4 rfl fun lk _ x h => st_are_payers lk x h
theorem ev_notTrue {b : Bool} (h : EvD K lk ta ρ (.bl b)) : EvB K lk (tTest (tOp rNotB ta (tC (.bl true)))) ρ (!b) := et_test (ev_is (ev_op2 h ev_bl (P := fun d => d = .bl (!decide (b = true))) fun w v u ok _ r1 r2 Q g => ⟨b, true, r1, r2, g.here (d := .bl _) ok rfl rfl⟩) (by cases b <;> rfl))
end
end RF

set_option Elab.async false
set_option linter.all false
set_option maxRecDepth 100000
set_option maxHeartbeats 4000000
set_option autoImplicit false
namespace RF
open PySem L2
/-! ### equal data -/
def eqL (xs ys : List D) : Bool := PyData.eqvAll (pyL xs) (pyL ys)
theorem eqD_lst (xs ys : List D) : eqD (.lst xs) (.lst ys) = eqL xs ys := by unfold eqD eqL; simp only [py, PyData.eqv]
theorem eqD_tup (xs ys : List D) : eqD (.tup xs) (.tup ys) = eqL xs ys := by unfold eqD eqL; simp only [py, PyData.eqv]
theorem eqL_nil : eqL [] [] = true := by unfold eqL; simp only [pyL, PyData.eqvAll]
theorem eqL_nc (x : D) (xs : List D) : eqL [] (x :: xs) = false := by unfold eqL; simp only [pyL, PyData.eqvAll]
theorem eqL_cn (x : D) (xs : List D) : eqL (x :: xs) [] = false := by unfold eqL; simp only [pyL, PyData.eqvAll]
theorem eqL_cc (x y : D) (xs ys : List D) : eqL (x :: xs) (y :: ys) = (eqD x y && eqL xs ys) := by unfold eqL eqD; simp only [pyL, PyData.eqvAll]
theorem eqD_int (a b : Int) : eqD (.int a) (.int b) = decide (a = b) := by
  unfold eqD
  simp only [py, PyData.eqv]
  rw [Bool.eq_iff_iff]
  simp
theorem eqD_str (a b : Str) : eqD (.str a) (.str b) = decide (a = b) := by
  unfold eqD
  simp only [py, PyData.eqv]
  rw [Bool.eq_iff_iff]
  simp
/-- lists of things of one kind -/
theorem eqL_map {α : Type} [DecidableEq α] {f : α → D} (h : ∀ a b, eqD (f a) (f b) = decide (a = b)) : ∀ xs ys : List α, eqL (xs.map f) (ys.map f) = decide (xs = ys)
  | [], [] => by rw [List.map_nil, eqL_nil]; rfl
  | [], y :: ys => by rw [List.map_nil, List.map_cons, eqL_nc]; rfl
  | x :: xs, [] => by rw [List.map_nil, List.map_cons, eqL_cn]; rfl
  | x :: xs, y :: ys => by
    rw [List.map_cons, List.map_cons, eqL_cc, h, eqL_map h xs ys, Bool.eq_iff_iff]
    simp
theorem eqD_strs (xs ys : List Str) : eqD (.tup (xs.map D.str)) (.tup (ys.map D.str)) = decide (xs = ys) := by rw [eqD_tup, eqL_map eqD_str]
theorem eqD_frac (p q : Rat) : eqD (fD p) (fD q) = decide (p = q) := by
  unfold fD
  rw [eqD_tup, eqL_cc, eqL_cc, eqL_nil, eqD_int, eqD_int, Bool.eq_iff_iff]
  simp only [Bool.and_true, Bool.and_eq_true, decide_eq_true_iff]
  constructor
  · rintro ⟨a, b⟩
    exact Rat.ext a (by omega)
  · rintro rfl
    exact ⟨rfl, rfl⟩
theorem plain_frac (q : Rat) : Plain 1 (fD q) := fun x hx => by
  have : x = .int q.num ∨ x = .int (q.den : Int) := by simpa [fD] using hx
  rcases this with rfl | rfl <;> exact True.intro
section
variable {K : PySem.W.Frag} {lk : Bool} {ρ : List Sl} {ta tb te tg : TE} {P : D → Prop} {p q : Rat} {xs ys : List Str}
theorem et_neF (ha : EvD K lk ta ρ (fD p)) (hb : EvD K lk tb ρ (fD q)) : EvB K lk (tTest (tOp (rNeU K) ta tb)) ρ (!decide (p = q)) := eb_is (et_test (eu_neD 1 ha hb (plain_frac p) (plain_frac q))) (by rw [eqD_frac])
theorem et_neS (ha : EvD K lk ta ρ (.tf xs)) (hb : EvD K lk tb ρ (.tf ys)) (h1 : ∀ s ∈ xs, PyData.strOk s = true) (h2 : ∀ s ∈ ys, PyData.strOk s = true) : EvB K lk (tTest (tOp (rNeU K) ta tb)) ρ (!decide (xs = ys)) := eb_is (et_test (eu_neD 1 (ev_tf ha) (ev_tf hb) (plain_strs 0 h1) (plain_strs 0 h2))) (by rw [eqD_strs])
theorem ev_eqS (ha : EvD K lk ta ρ (.tf xs)) (hb : EvD K lk tb ρ (.tup (ys.map D.str))) (h1 : ∀ s ∈ xs, PyData.strOk s = true) (h2 : ∀ s ∈ ys, PyData.strOk s = true) : EvD K lk (tOp (rEqU K) ta tb) ρ (.bl (decide (xs = ys))) := ev_is (eu_eqD 1 (ev_tf ha) hb (plain_strs 0 h1) (plain_strs 0 h2)) (by rw [eqD_strs])
/-- t * n -/
theorem eu_repT {ds : List D} {n : Nat} (ha : EvD K lk ta ρ (.tup ds)) (hb : EvD K lk tb ρ (.int (n : Int))) (h1 : ds ≠ []) (h2 : 2 ≤ n) (h3 : n ≤ 1000) (h4 : ds.length ≤ 1000) : EvD K lk (tOp (rMulU K) ta tb) ρ (.tup (List.replicate n ds).flatten) := ev_op2 ha hb (rvr (rvl fun w v u ok _ r1 r2 Q g => by
  obtain ⟨a, vs, e, sq, r⟩ := r1
  refine ⟨a, (n : Int), vs, e, r2, sqTH ok sq, fun z => h1 ?_, by omega, by omega, by rw [r.length]; exact h4, fun b hb => ?_⟩
  · have := r.length
    rw [z] at this
    exact List.eq_nil_of_length_eq_zero this.symm
  · have key : ∀ m : Nat, RpL K w.I (List.replicate m ds).flatten (List.replicate m vs).flatten := fun m => by
      induction m with
      | zero => exact rfl
      | succ m ih => rw [List.replicate_succ, List.replicate_succ, List.flatten_cons, List.flatten_cons]; exact r.append ih
    rw [Int.toNat_natCast]
    exact g.new (d := .tup (List.replicate n ds).flatten) ok hb True.intro ⟨b, _, rfl, .inl (.inl upd_same), (key n).mono (same_new (notI ok hb))⟩ rfl))
end
theorem Pays.strOk {R : Rounds} {ps : List Str} (h : Pays R ps) (w : Wf R) : ∀ s ∈ ps, PyData.strOk s = true := (h.ok w).2.2
end RF

set_option Elab.async false
set_option linter.all false
set_option maxRecDepth 100000
set_option maxHeartbeats 4000000
set_option autoImplicit false
namespace RF
open PySem L2
section
variable {K : PySem.W.Frag} {lk : Bool} {w0 w w' w1 : Wd} {μ μ' : Mu} {L L' : Addr → Prop} {σ σ' : St} {ρ ρ' : List Sl} {te ta tb : TE} {tt tu : TT} {t u : TS} {p : PoX} {P : D → Prop} {X Y : D → Mu → Prop} {d : D} {g : TG} {wi : TI}
/-! ### tuples that may be keys -/
theorem eu_slK {ks : List Key} {tl th : TO} {lo hi : Option Int} (h : EvD K lk te ρ (.tk ks)) (hl : EvO K lk tl ρ lo) (hh : EvO K lk th ρ hi) : EvD K lk (tSl (slU K) te tl th) ρ (.tk (cutA ks lo hi)) := fun w0 w σ s Q g =>
  h w0 w σ s _ fun v w1 d l1 ok1 r1 e => hl w0 w1 σ (s.mono l1 ok1) _ fun w2 l2 ok2 => hh w0 w2 σ ((s.mono l1 ok1).mono l2 ok2) _ fun w3 l3 ok3 => by
    rw [show d = _ from e] at r1
    obtain ⟨a, e, hI⟩ := r1
    have hI3 := (l2.trans l3).I _ _ hI
    refine .inl ⟨a, ks.map kV, e, .inl (.inl (ok3.sub _ _ hI3)), fun z => ?_, fun _ p hp => ?_⟩
    · rw [List.length_map] at z
      have ec : cutA ks lo hi = ks := by
        unfold cutA
        rw [z.1, z.2]
        simp
      exact (g.up ((l1.trans l2).trans l3)).here (d := .tk (cutA ks lo hi)) ok3 (by rw [ec]; exact ⟨a, rfl, hI3⟩) rfl
    · refine (g.up ((l1.trans l2).trans l3)).new (d := .tk (cutA ks lo hi)) ok3 hp True.intro ⟨p, rfl, ?_⟩ rfl
      rw [upd_same, ← cut_map]
      rfl
theorem eu_toK {ks : List Key} {n : Nat} {th : TE} (h : EvD K lk te ρ (.tk ks)) (hh : EvD K lk th ρ (.int n)) : EvD K lk (tSl (slU K) te tNoPart (tPart th)) ρ (.tk (ks.take n)) := ev_is (eu_slK h eo_none (eo_some hh)) (by rw [cutA_to])
theorem eu_fromK {ks : List Key} {n : Nat} {th : TE} (h : EvD K lk te ρ (.tk ks)) (hh : EvD K lk th ρ (.int n)) : EvD K lk (tSl (slU K) te (tPart th) tNoPart) ρ (.tk (ks.drop n)) := ev_is (eu_slK h (eo_some hh) eo_none) (by rw [cutA_from])
theorem eu_catK {xs ys : List Key} (ha : EvD K lk ta ρ (.tk xs)) (hb : EvD K lk tb ρ (.tk ys)) (hl : xs.length + ys.length ≤ 100000) : EvD K lk (tOp (rAddU K) ta tb) ρ (.tk (xs ++ ys)) := ev_op2 ha hb (rvr (rvl fun w v u ok _ r1 r2 Q g => by
  obtain ⟨a, e1, h1⟩ := r1
  obtain ⟨b, e2, h2⟩ := r2
  refine ⟨a, b, xs.map kV, ys.map kV, e1, e2, .inl (.inl (ok.sub _ _ h1)), .inl (.inl (ok.sub _ _ h2)), by rw [List.length_map, List.length_map]; exact Nat.le_trans hl (by decide), fun z => ?_, fun _ z => ?_, fun _ _ c hc => ?_⟩
  · have e : xs = [] := List.map_eq_nil_iff.mp z
    subst e
    exact g.here (d := .tk ys) ok ⟨b, rfl, h2⟩ rfl
  · have e : ys = [] := List.map_eq_nil_iff.mp z
    subst e
    rw [List.append_nil] at g
    exact g.here (d := .tk xs) ok ⟨a, rfl, h1⟩ rfl
  · exact g.new (d := .tk (xs ++ ys)) ok hc True.intro ⟨c, rfl, by rw [upd_same, List.map_append]⟩ rfl))
theorem flat_rep (n : Nat) (v : V) : (List.replicate n [v]).flatten = List.replicate n v := by
  induction n with
  | zero => rfl
  | succ n ih => rw [List.replicate_succ, List.flatten_cons, ih, List.replicate_succ]; rfl
theorem eu_repK {k : Key} {n : Nat} (ha : EvD K lk ta ρ (.tk [k])) (hb : EvD K lk tb ρ (.int (n : Int))) (h1 : 1 ≤ n) (h3 : n ≤ 1000) : EvD K lk (tOp (rMulU K) ta tb) ρ (.tk (List.replicate n k)) := ev_op2 ha hb (rvr fun w v u ok _ r1 r2 Q g => by
  obtain ⟨a, e, hI⟩ := r1
  have hI : w.I a = some (.tup [kV k]) := hI
  by_cases h2 : 2 ≤ n
  · refine .inl ⟨a, (n : Int), [kV k], e, r2, .inl (.inl (ok.sub _ _ hI)), by simp, by omega, by omega, by show 1 ≤ 1000; decide, fun b hb => ?_⟩
    rw [Int.toNat_natCast]
    refine g.new (d := .tk (List.replicate n k)) ok hb True.intro ⟨b, rfl, ?_⟩ rfl
    rw [upd_same, flat_rep, List.map_replicate]
  · have e1 : n = 1 := by omega
    subst e1
    refine .inr ⟨a, 1, [kV k], e, r2, .inl (.inl (ok.sub _ _ hI)), .inr rfl, by decide, by decide, ?_⟩
    exact g.here (d := .tk [k]) ok ⟨a, rfl, hI⟩ rfl)
theorem eu_ixK {ks : List Key} {n : Nat} {k : Key} (ha : EvD K lk ta ρ (.tk ks)) (hb : EvD K lk tb ρ (.int (n : Int))) (h : ks[n]? = some k) : EvD K lk (rIxU K ta tb) ρ (kD k) := eu_ixT (ev_tk ha) hb (atI_nat (by rw [List.getElem?_map, h]; rfl))
/-- {k: v}, held fast -/
theorem eu_disp1 {tk tv : TE} {ks : List Key} (hk : EvD K lk tk ρ (.tk ks)) (hv : EvD K lk tv ρ d) : EvD K lk (eFz (tDisp1 tk tv)) ρ (.ft [(ks, d)]) := fun w0 w σ s Q g a ha => by
  have hI := notI s.ok ha
  have ht := not_tape s.ok ha
  have ok1 : (w.put a (.dT [])).Ok := Wd.put_ok s.ok hI ht True.intro
  have l1 : w.le (w.put a (.dT [])) := Wd.le_put (.refl w) ha
  have s1 := s.mono l1 ok1
  refine hk w0 _ σ s1 _ fun x w2 d2 l2 ok2 r2 e2 => hv w0 w2 σ (s1.mono l2 ok2) _ fun y w3 d3 l3 ok3 r3 e3 => ?_
  rw [show d2 = _ from e2] at r2
  rw [show d3 = _ from e3] at r3
  have l23 := l2.trans l3
  have h3 : w3.H a = some (.dT []) := l23.H a _ upd_same ht
  have i3 : w3.I a = none := l23.fr a hI (by show upd w.H a _ a ≠ none; rw [upd_same]; exact fun z => nomatch z)
  have t3 : w3.tp ≠ some a := by rw [l23.tp]; exact ht
  obtain ⟨b, eb, hb⟩ := r2
  have hb3 := l3.I _ _ hb
  have nab : b ≠ a := fun z => by rw [z, i3] at hb3; cases hb3
  refine ⟨h3, b, ks, y, by rw [eb], ok3.sub _ _ hb3, .inr ⟨a, .dT [(ks, y)], rfl, upd_same, True.intro, fun od => ?_⟩⟩
  have ok4 : (w3.put a (.dT [(ks, y)])).Ok := Wd.put_ok ok3 i3 t3 True.intro
  have l4 : w.le (w3.put a (.dT [(ks, y)])) := Wd.le_put (l1.trans l23) ha
  refine g (.ref a) ((w3.put a (.dT [(ks, y)])).fz a (.frz od (.dT [(ks, y)]))) (.ft [(ks, d)]) (le_fz l4 ha i3) (fz_ok (od := od) (u := .dT [(ks, y)]) ok4 i3 upd_same True.intro t3) ?_ rfl
  exact ⟨a, od, _, rfl, upd_same, y, [], rfl, r3.mono (same_new i3), rfl⟩
/-- xs.index(s) -/
theorem eu_index {xs : List Str} {s : Str} {j : Nat} (ha : EvD K lk ta ρ (.lst (xs.map D.str))) (hb : EvD K lk tb ρ (.str s)) (hj : xs[j]? = some s) (hn : xs.Nodup) : EvD K lk (tBM K "list" (rIndex K) ta (tCons tb tNil)) ρ (.int (j : Int)) := fun w0 w σ st Q g =>
  ha w0 w σ st _ fun v w1 d1 l1 ok1 r1 e1 => by
    rw [show d1 = _ from e1] at r1
    obtain ⟨a, vs, ev, sq, r⟩ := r1
    have evs := r.strs
    subst evs
    rw [ev]
    refine ⟨.inl ⟨rfl, _, sqLH ok1 sq⟩, hb w0 w1 σ (st.mono l1 ok1) _ fun y w2 d2 l2 ok2 r2 e2 => ?_⟩
    rw [show d2 = _ from e2] at r2
    have ey : y = .str s := r2
    subst ey
    refine ⟨a, xs.map V.str, .str s, j, .str s, rfl, rfl, sqLH ok2 (sqL_keeps (.of_same l2.I) sq), rfl, ?_, by rw [List.getElem?_map, hj]; rfl, ?_, fun m z hm hz => ?_, ?_⟩
    · rw [List.all_map]
      exact List.all_eq_true.mpr fun x _ => rfl
    · show (s == s) = true
      simp
    · rw [List.getElem?_map] at hz
      cases hx : xs[m]? with
      | none => rw [hx] at hz; cases hz
      | some x =>
        rw [hx] at hz
        have hz : V.str x = z := Option.some.inj hz
        subst hz
        have hne : x ≠ s := fun e => by
          subst e
          obtain ⟨h1, e1⟩ := List.getElem?_eq_some_iff.mp hx
          obtain ⟨h2, e2⟩ := List.getElem?_eq_some_iff.mp hj
          have := List.pairwise_iff_getElem.mp (List.nodup_iff_pairwise_ne.mp hn) m j h1 h2 hm
          exact this (by rw [e1, e2])
        show (x == s) = false
        simp [hne]
    · exact (g.up (l1.trans l2)).here (d := .int (j : Int)) ok2 rfl rfl
/-! ### lists and dicts that may be changed -/
/-- [a, b, ..] -/
theorem xlst {ta : TA} {C : List Ar → Mu → Prop} (h : AX K lk L ta ρ μ C) (k : ∀ as μ1, C as μ1 → ∃ ds, as = dats ds ∧ ds.length ≤ 1000 ∧ ∀ b, μ1 b = none → X (.mref b) (μ1.put b (.lst ds))) : EX K lk L (tLst ta) ρ μ X := fun w0 w σ s Q g => h w0 w σ s _ fun vs w1 as μ1 s1 r1 c => by
  obtain ⟨ds, rfl, hl, q⟩ := k as μ1 c
  have r := ars_dats r1
  exact ⟨by rw [r.length]; exact Nat.le_trans hl (by decide), fun b hb => g (.ref b) (w1.put b (.lst vs)) (.mref b) _ (s1.fresh hb (o := .lst vs) True.intro (m := .lst ds) ⟨vs, upd_same, r⟩) rfl (q b (s1.notfree hb))⟩
/-- xs[i] -/
theorem xixL {a : Addr} {xs : List D} {i : Int} (ho : EvD K lk ta ρ (.mref a)) (hm : μ a = some (.lst xs)) (hb : EvD K lk tb ρ (.int i)) (h : atI xs i = some d) : EX K lk L (rIxU K ta tb) ρ μ (fun x μ' => x = d ∧ μ' = μ) := fun w0 w σ s Q g => .inr (.inl (ho w w σ s.sr _ fun v w1 x l1 ok1 r1 e => hb w w1 σ ((s.sr).mono l1 ok1) _ fun y w2 x2 l2 ok2 r2 e2 => by
  rw [show x = _ from e] at r1
  rw [show x2 = _ from e2] at r2
  have s2 := (s.mono l1 ok1).mono l2 ok2
  obtain ⟨hI, ht, vs, hH, r⟩ := s2.mu a _ hm
  obtain ⟨z, h1, h2⟩ := at_rp r h
  exact ⟨a, vs, i, z, r1, r2, .inl (.inl hH), h1, g z w2 d μ s2 h2 ⟨rfl, rfl⟩⟩))
/-- xs[i] = e -/
theorem xputL {to : TE} {a : Addr} {i : Int} {j : Nat} (h : EX K lk L te ρ μ X) (ho : EvD K lk to ρ (.mref a)) (hi : EvD K lk tb ρ (.int i)) (hm : ∀ d μ1, X d μ1 → ∃ xs, μ1 a = some (.lst xs) ∧ ixN xs.length i = some j ∧ p.nx ρ (μ1.put a (.lst (xs.set j d)))) : StX K lk L (sPutU to tb te) ρ μ p := fun w0 w σ E s f => .inl
  (h w0 w σ s _ fun v w1 d μ1 s1 r1 c => ho w1 w1 σ s1.sr _ fun v2 w2 d2 l2 ok2 r2 e2 => hi w2 w2 σ (s1.mono l2 ok2).sr _ fun y w3 x3 l3 ok3 r3 e3 => by
    rw [show d2 = _ from e2] at r2
    rw [show x3 = _ from e3] at r3
    have s3 := (s1.mono l2 ok2).mono l3 ok3
    obtain ⟨xs, em, hl, q⟩ := hm d μ1 c
    obtain ⟨hI, ht, vs, hH, r⟩ := s3.mu a _ em
    refine ⟨a, vs, i, j, r2, r3, hH, by rw [r.length]; exact hl, ?_⟩
    exact f.nx σ (w3.put a (.lst (vs.set j v))) ρ _ (s3.put em (o := .lst (vs.set j v)) True.intro (m' := .lst (xs.set j d)) ⟨_, upd_same, RpL.set ((r1.mono l2.I).mono l3.I) j r⟩) q)
/-- dict(pairs), the keys tuples -/
theorem pairsT_rp {I : Hp} : ∀ {kvs : List (List Key × D)} {vs : List V}, RpL K I (kvs.map fun p => .tup [.tk p.1, p.2]) vs → ∃ (ps : List Addr) (es : List (List Key × Addr × V)), vs = ps.map V.ref ∧ Paired (fun p kv => SqT K I p [.ref kv.2.1, kv.2.2] ∧ I kv.2.1 = some (.tup (kv.1.map kV))) ps es ∧ es.map (·.1) = kvs.map (·.1) ∧ RpT K I kvs (es.map fun x => (x.1, x.2.2))
  | [], _, r => ⟨[], [], r, .nil, rfl, rfl⟩
  | (k, d) :: kvs, _, ⟨x, t, e, r, q⟩ => by
    obtain ⟨ps, es, e1, e2, e3, e4⟩ := pairsT_rp q
    obtain ⟨a, xs, ea, sq, x1, r1, f1, q1, x2, r2, f2, q2, f3⟩ := r
    have f3 : r2 = [] := f3
    subst f1 f2 f3
    obtain ⟨b, eb, hb⟩ := q1
    subst eb
    exact ⟨a :: ps, (k, b, x2) :: es, by rw [e, ea, e1]; rfl, .cons ⟨sq, hb⟩ e2, by rw [List.map_cons, List.map_cons, e3], x2, _, rfl, q2, e4⟩
theorem eu_dictT {kvs : List (List Key × D)} (h : EvD K lk ta ρ (.lst (kvs.map fun p => .tup [.tk p.1, p.2]))) (hn : (kvs.map (·.1)).Nodup) : EvD K lk (tCB (rDictU K) (tCons ta tNil)) ρ (.dt kvs) := ev_cb1 (ea_cons h ea_nil) (rcr fun w vs ok _ r Q g => by
  obtain ⟨v, e, r⟩ := ars_one r
  obtain ⟨a, us, e2, sq, r2⟩ := r
  obtain ⟨ps, es, e3, pr, ek, rk⟩ := pairsT_rp r2
  subst e e2 e3
  refine ⟨a, ps, es, rfl, sqLH ok sq, Paired.mapP pr fun a b ⟨z1, z2⟩ => ⟨sqT_keeps (.of_same ok.sub) z1, ok.sub _ _ z2⟩, by rw [ek]; exact hn, fun q hq => ?_⟩
  exact g.new (d := .dt kvs) ok hq True.intro ⟨q, _, rfl, .inl upd_same, rk.keeps (.of_same (same_new (notI ok hq)))⟩ rfl)
/-- range(i, j, -1) -/
def downD (lo : Int) (n : Nat) : List D := (List.range n).map fun i => D.int (lo - (i : Nat))
theorem it_down {ta : TA} {i j : Int} (h : EvA K lk ta ρ (fun x => x = [.d (.int i), .d (.int j), .d (.int (-1))])) (h0 : -100000 ≤ i ∧ i ≤ 100000) (h1 : -100000 ≤ j ∧ j ≤ 100000) : ItS K lk (iRng3 ta) ρ (fun ys => ys = downD i (i - j).toNat) := fun w0 w σ s R k => h w0 w σ s _ fun vs w1 as l1 ok1 r1 e => by
  subst e
  obtain ⟨v1, _, ev1, r1, v2, _, ev2, r2, v3, _, ev3, r3, ev4⟩ := r1
  subst ev1 ev2 ev3 ev4
  refine ⟨i, j, -1, (i - j).toNat, by rw [show v1 = .int i from r1, show v2 = .int j from r2, show v3 = .int (-1) from r3], RgC.neg (by omega) (by omega) (by omega) (by omega), k _ w1 _ l1 ok1 rfl ⟨fun m w' ok' sm hm => ?_, fun m w' v' H' ok' sm y x hx => ?_, fun w' ok' sm => ?_⟩⟩
  · unfold downD at hm
    rw [List.length_map, List.length_range] at hm
    exact hm
  · obtain ⟨e', y⟩ := y
    unfold downD at hx
    rw [List.getElem?_map] at hx
    have hm : m < (i - j).toNat := by
      apply Classical.byContradiction
      intro z
      rw [List.getElem?_eq_none (by rw [List.length_range]; omega)] at hx
      cases hx
    rw [List.getElem?_range hm] at hx
    have hx : D.int (i - (m : Nat)) = x := Option.some.inj hx
    subst hx
    refine ⟨w', e'.symm, .refl w', ok', ?_⟩
    show v' = .int (i - (m : Nat))
    rw [y]
    congr 1
    omega
  · unfold downD
    rw [List.length_map, List.length_range]
    exact Nat.le_refl _
/-- all that may be changed is given up, as it stands -/
theorem sx_retV (n : Nat) (h : EX K lk L te ρ μ X) (hL : ∀ a, ¬ L a) (k : ∀ d μ', X d μ' → p.rt (der μ' n d) mu0) : StX K lk L (tRet te) ρ μ p := fun w0 w σ E s f => h w0 w σ s _ fun v w' d μ' s' r c => by
  let w2 : Wd := { w'.frz μ' with tp := w'.tp }
  have sm : Same w'.I w2.I := frz_same s'.mu
  have rp : Rp K w2.I (der μ' n d) v := der_rp s'.mu n d v r
  have ok0 := frz_ok (μ := μ') s'.ok
  have ok2 : w2.Ok := by
    refine ⟨ok0.sub, fun a e => ?_, fun _ => True.intro, ok0.tups⟩
    have z : μ' a = none := by
      cases z : μ' a with
      | none => rfl
      | some m => exact absurd e (s'.mu a m z).2.1
    exact (s'.ok.tape a e).mono sm (by show (w'.frz μ').I a = none; rw [frz_none z]; exact (s'.ok.tape a e).1) rfl
  have lx : w0.lex L w2 := ⟨s'.le.tp, s'.le.lk, s'.le.I.trans sm, s'.le.H, fun a e n => by
    show (w'.frz μ').I a = none
    cases z : μ' a with
    | none => rw [frz_none z]; exact s'.le.fr a e n
    | some m => exact absurd ((s'.own a m z).resolve_left (hL a)) n, s'.le.dom⟩
  exact f.rt v w2 (der μ' n d) mu0 lx ok2 s'.lk (fun a m e => nomatch e) (fun a m e => nomatch e) rp (k d μ' c)
end
section
variable {κ : Type} [DecidableEq κ] (A : Dk κ) {kvs : List (κ × D)} {k : κ}
variable {K : PySem.W.Frag} {lk : Bool} {w0 w w' w1 : Wd} {μ μ' : Mu} {L L' : Addr → Prop} {σ σ' : St} {ρ ρ' : List Sl} {te ta tb : TE} {tt tu : TT} {t u : TS} {p : PoX} {P : D → Prop} {X Y : D → Mu → Prop} {d : D} {g : TG} {wi : TI}
/-- e[k] = v, e itself to be asked for -/
theorem Dk.xputX {to : TE} {a : Addr} (h : EvD K lk te ρ d) (ho : EX K lk L to ρ μ (fun x μ' => x = .mref a ∧ μ' = μ)) (hk : EvD K lk tb ρ (A.kd k)) (hm : μ a = some (A.mo kvs)) (hl : kvs.length < 10000000) (q : p.nx ρ (μ.put a (A.mo (putD kvs k d)))) : StX K lk L (sPutU to tb te) ρ μ p := fun w0 w σ E s f => .inr
  (h w w σ s.sr _ fun v w1 d1 l1 ok1 r1 e1 => by
    have s1 := s.mono l1 ok1
    refine ho (w0.up w1) w1 σ s1.rebase _ fun v2 w2 d2 μ2 s2' r2 ⟨e2, em⟩ => ?_
    subst e2 em
    have smw : Same w1.I w2.I := s2'.le.I
    have s2 := s2'.back (up_lex s1.le s1.ok)
    refine hk w2 w2 σ s2.sr _ fun y w3 x3 l3 ok3 r3 e3 => ?_
    rw [show d1 = _ from e1] at r1
    rw [show x3 = _ from e3] at r3
    have s3 := s2.mono l3 ok3
    obtain ⟨hI, ht, hM⟩ := s3.mu a _ hm
    obtain ⟨es, hH, r⟩ := A.moAt.mp hM
    rw [show v2 = .ref a from r2]
    refine ⟨a, upd w3.H a (A.ho (putK es k v)), rfl, A.dput ok3 hH r3 (by rw [A.len r]; exact Nat.lt_trans hl (by decide)), ?_⟩
    exact f.nx σ (w3.put a (A.ho (putK es k v))) ρ _ (s3.put hm (A.hpl _) (m' := A.mo (putD kvs k d)) (A.moAt.mpr ⟨_, upd_same, A.put r ((r1.mono smw).mono l3.I)⟩)) q)
/-- for k in e, e itself to be asked for -/
theorem xitkT {kvs : List (List Key × D)} (h : EX K lk L te ρ μ (fun x μ' => x = .ft kvs ∧ μ' = μ)) : IX K lk L (iKeys te) ρ μ (fun ys μ' => ys = kvs.map (fun q => D.tk q.1) ∧ μ' = μ) := fun w0 w σ s R k => h w0 w σ s _ fun v w1 d μ1 s1 r1 ⟨e, em⟩ => by
  subst e em
  obtain ⟨a, o, es, e, hI, r⟩ := r1
  exact ⟨a, o, e, .inr ⟨es, s1.ok.sub _ _ hI, k _ w1 _ _ s1 ⟨rfl, rfl⟩ (keysT_yield hI r.keys)⟩⟩
/-- [{} for .. in ..] -/
theorem Dk.xlcD {js vs : List Nat} {xs : List D} (hi : ItS K lk wi ρ (fun ys => ys = xs)) (hl : xs.length ≤ 1000) (hj : ∀ j ∈ js, j ∈ vs) (turn : ∀ (i : Nat) (x : D), xs[i]? = some x → ∃ ρ2, TgS K lk g js x (wipeS ρ vs) ρ2) :
    EX K lk L (tLc wi g tYes (eOr tDNewK tDNewT) vs) ρ μ (fun d μ' => ∃ (b : Addr) (as : List Addr), as.length = xs.length ∧ as.Nodup ∧ b ∉ as ∧ μ b = none ∧ (∀ a ∈ as, μ a = none) ∧ d = .mref b ∧ μ' = (μ.many as (A.mo [])).put b (.lst (as.map D.mref))) := fun w0 w σ s Q gq => hi w w σ s.sr _ fun J w1 xs' l1 ok1 hX Y Dl hD => by
    have hX : xs' = xs := hX
    subst hX
    have s1 := (s.mono l1 ok1).rebase
    have bk : w0.lex L (w0.up w1) := up_lex (s.mono l1 ok1).le ok1
    have hDm : μ Dl = none := s1.notfree hD
    refine ⟨fun i m H' => m = xs'.length - i ∧ i ≤ xs'.length ∧ ∃ w' as, w'.H = H' ∧ as.length = i ∧ as.Nodup ∧ Dl ∉ as ∧ (∀ a ∈ as, μ a = none) ∧ Sx K lk L (w0.up w1) w' σ ρ ((μ.many as (A.mo [])).put Dl (.lst (as.map D.mref))),
      ⟨xs'.length, by simp, Nat.zero_le _, w1.put Dl (.lst []), [], rfl, rfl, .nil, (by simp), (fun _ h => nomatch h), ?_⟩, ?_⟩
    · refine (s1.fresh hD (o := .lst []) True.intro (m := .lst []) ⟨[], upd_same, rfl⟩).same fun a => ?_
      by_cases z : a = Dl
      · subst z; rw [Mu.put_same, Mu.put_same]; rfl
      · rw [Mu.put_ne z, Mu.put_ne z]; exact if_neg (by simp)
    rintro i m H' ⟨rfl, hle, w', as, rfl, hal, hnd, hDa, hfr, s'⟩
    have sm : Same w1.I w'.I := s'.le.I
    have mD : ((μ.many as (A.mo [])).put Dl (.lst (as.map D.mref))) Dl = some (.lst (as.map D.mref)) := Mu.put_same _ _ _
    by_cases hlt : i < xs'.length
    · have hx : xs'[i]? = some xs'[i] := List.getElem?_eq_getElem hlt
      obtain ⟨ρ2, tg⟩ := turn i _ hx
      refine .inr ⟨Y.go i w' s'.ok sm hlt, fun H2 => ∃ w2 as2, w2.H = H2 ∧ as2.length = i + 1 ∧ as2.Nodup ∧ Dl ∉ as2 ∧ (∀ a ∈ as2, μ a = none) ∧ Sx K lk L (w0.up w1) w2 σ ρ ((μ.many as2 (A.mo [])).put Dl (.lst (as2.map D.mref))), fun H2 ⟨w2, as2, e2, q⟩ => ⟨xs'.length - (i + 1), by omega, rfl, hlt, w2, as2, e2, q⟩, fun v H2 y => ?_⟩
      obtain ⟨w2, rfl, l2, ok2, r2⟩ := Y.yld i w' v H2 s'.ok sm y _ hx
      have s2 := s'.mono l2 ok2
      have sw2 := s2.sr.wipe vs
      refine tg w2 w2 _ v sw2 r2 _ fun σ3 st3 sb => ⟨wipe_same sb hj, ?_⟩
      simp only [tYes, if_true]
      refine A.newD fun b hb => ?_
      have nb := s2.notfree hb
      have hbD : b ≠ Dl := fun z => by rw [z, mD] at nb; cases nb
      rw [Mu.put_ne hbD] at nb
      have hba : b ∉ as := fun z => by rw [show μ.many as (A.mo []) b = some (A.mo []) from if_pos z] at nb; cases nb
      have hbm : μ b = none := by rw [← nb]; exact (if_neg hba).symm
      have s5 := s2.fresh hb (o := A.ho []) (A.hpl _) (m := A.mo []) (A.moAt.mpr ⟨[], upd_same, A.nil _ _⟩)
      have m5 : (((μ.many as (A.mo [])).put Dl (.lst (as.map D.mref))).put b (A.mo [])) Dl = some (.lst (as.map D.mref)) := by rw [Mu.put_ne fun z => hbD z.symm]; exact mD
      obtain ⟨hI5, ht5, es, hH5, r5⟩ := s5.mu Dl _ m5
      have r5l := r5.length
      rw [List.length_map] at r5l
      refine ⟨es, hH5, by rw [r5l, hal]; exact Nat.lt_of_lt_of_le (Nat.lt_of_lt_of_le hlt hl) (by decide), (w2.put b (A.ho [])).put Dl (.lst (es ++ [.ref b])), as ++ [b], rfl, by rw [List.length_append, hal]; rfl, ?_, ?_, ?_, ?_⟩
      · rw [List.nodup_append]
        exact ⟨hnd, by simp, fun x hx y hy e => hba (by rw [← show y = b by simpa using hy, ← e]; exact hx)⟩
      · intro z
        rcases List.mem_append.mp z with q | q
        · exact hDa q
        · exact hbD (show Dl = b by simpa using q).symm
      · intro a ha
        rcases List.mem_append.mp ha with q | q
        · exact hfr a q
        · rw [show a = b by simpa using q]; exact hbm
      · have s6 := s5.put m5 (o := .lst (es ++ [.ref b])) True.intro (m' := .lst (as.map D.mref ++ [.mref b])) ⟨_, upd_same, r5.snoc (d := .mref b) rfl⟩
        refine s6.same fun a => ?_
        by_cases z : a = Dl
        · subst z; rw [Mu.put_same, Mu.put_same, List.map_append]; rfl
        · rw [Mu.put_ne z, Mu.put_ne z]
          by_cases z2 : a = b
          · subst z2
            rw [Mu.put_same]
            exact if_pos (by simp)
          · rw [Mu.put_ne z2, Mu.put_ne z]
            unfold Mu.many
            by_cases z3 : a ∈ as
            · rw [if_pos z3, if_pos (List.mem_append_left _ z3)]
            · rw [if_neg z3, if_neg]
              intro q
              rcases List.mem_append.mp q with q | q
              · exact z3 q
              · exact z2 (by simpa using q)
    · have e : i = xs'.length := by omega
      exact .inl ⟨by subst e; exact Y.stop w' s'.ok sm, gq (.ref Dl) w' (.mref Dl) _ (s'.back bk) rfl ⟨Dl, as, by omega, hnd, hDa, hDm, hfr, rfl, rfl⟩⟩
end
end RF

set_option Elab.async false
set_option linter.all false
set_option maxRecDepth 100000
set_option maxHeartbeats 4000000
set_option autoImplicit false
namespace RF
open PySem L2
/-! ### ways by counts -/
def cntQ (R : Rounds) (ws : List Str) : List Int := (namesQ R).map fun s => ((ws.count s : Nat) : Int)
def idxS (R : Rounds) (s : Str) : Nat := (namesQ R).idxOf s
def bumpI (c : List Int) (j : Nat) : List Int := c.take j ++ [c.getD j 0 + 1] ++ c.drop (j + 1)
theorem idx_lt {R : Rounds} {s : Str} (h : s ∈ namesQ R) : idxS R s < (namesQ R).length := List.idxOf_lt_length_of_mem h
theorem idx_get {R : Rounds} {s : Str} (h : s ∈ namesQ R) : (namesQ R)[idxS R s]? = some s := by
  rw [List.getElem?_eq_getElem (idx_lt h)]
  congr 1
  exact List.getElem_idxOf (idx_lt h)
theorem idx_inj {R : Rounds} {s t : Str} (hs : s ∈ namesQ R) (ht : t ∈ namesQ R) (e : idxS R s = idxS R t) : s = t := by
  have h1 := idx_get hs
  rw [e, idx_get ht] at h1
  exact (Option.some.inj h1).symm
theorem bump_set {c : List Int} {j : Nat} (h : j < c.length) : bumpI c j = c.set j (c.getD j 0 + 1) := by
  unfold bumpI
  rw [List.set_eq_take_append_cons_drop, if_pos h, List.append_assoc]
  rfl
theorem bump_len {c : List Int} {j : Nat} (h : j < c.length) : (bumpI c j).length = c.length := by rw [bump_set h, List.length_set]
theorem bump_cnt {R : Rounds} {s : Str} (hs : s ∈ namesQ R) (ws : List Str) : bumpI (cntQ R ws) (idxS R s) = cntQ R (ws ++ [s]) := by
  have hl : idxS R s < (cntQ R ws).length := by unfold cntQ; rw [List.length_map]; exact idx_lt hs
  rw [bump_set hl]
  refine List.ext_getElem? fun i => ?_
  unfold cntQ
  rw [List.getElem?_map]
  by_cases e : idxS R s = i
  · subst e
    rw [List.getElem?_set_self (by unfold cntQ at hl; exact hl), idx_get hs]
    show some _ = some _
    congr 1
    rw [List.getD_eq_getElem?_getD, List.getElem?_map, idx_get hs]
    show ((ws.count s : Nat) : Int) + 1 = (((ws ++ [s]).count s : Nat) : Int)
    rw [List.count_append]
    simp
  · rw [List.getElem?_set_ne e, List.getElem?_map]
    cases ht : (namesQ R)[i]? with
    | none => rfl
    | some t =>
      show some _ = some _
      congr 1
      have hne : s ≠ t := fun z => by
        subst z
        obtain ⟨h1, e1⟩ := List.getElem?_eq_some_iff.mp ht
        obtain ⟨h2, e2⟩ := List.getElem?_eq_some_iff.mp (idx_get hs)
        have pw := List.nodup_iff_pairwise_ne.mp (names_nodup R)
        rcases Nat.lt_or_gt_of_ne e with z | z
        · exact List.pairwise_iff_getElem.mp pw _ _ h2 h1 z (by rw [e1, e2])
        · exact List.pairwise_iff_getElem.mp pw _ _ h1 h2 z (by rw [e1, e2])
      show ((ws.count t : Nat) : Int) = (((ws ++ [s]).count t : Nat) : Int)
      rw [List.count_append]
      have : List.count t [s] = 0 := List.count_eq_zero.mpr (by simp; exact fun z => hne z.symm)
      rw [this]
      rfl
theorem bump_inj {c : List Int} {i j : Nat} (hi : i < c.length) (hj : j < c.length) (h : bumpI c i = bumpI c j) : i = j := by
  rw [bump_set hi, bump_set hj] at h
  apply Classical.byContradiction
  intro z
  have : (c.set i (c.getD i 0 + 1))[i]? = (c.set j (c.getD j 0 + 1))[i]? := by rw [h]
  rw [List.getElem?_set_self hi, List.getElem?_set_ne (fun e => z e.symm), List.getElem?_eq_getElem hi, List.getD_eq_getElem?_getD, List.getElem?_eq_getElem hi] at this
  have := Option.some.inj this
  simp at this
  omega
def allowB (R : Rounds) (ps : List Str) (k : Nat) (s : Str) : Bool := decide (ps.length ≤ k) || decide (ps[k]? = some s)
def ins (acc : List (List Int)) (c : List Int) : List (List Int) := if c ∈ acc then acc else acc ++ [c]
def bumps (R : Rounds) (ps : List Str) (k : Nat) (c : List Int) (cs : List Str) : List (List Int) := (cs.filter (allowB R ps k)).map fun s => bumpI c (idxS R s)
def lay (R : Rounds) (ps : List Str) : Nat → List (List Int)
  | 0 => [List.replicate (namesQ R).length 0]
  | k + 1 => ((lay R ps k).flatMap fun c => bumps R ps k c (canAt R k)).foldl ins []
theorem ins_mem {acc : List (List Int)} {c x : List Int} : x ∈ ins acc c ↔ x ∈ acc ∨ x = c := by
  unfold ins
  split
  · rename_i h
    constructor
    · exact fun z => .inl z
    · rintro (z | z)
      · exact z
      · rw [z]; exact h
  · simp
theorem ins_nodup {acc : List (List Int)} {c : List Int} (h : acc.Nodup) : (ins acc c).Nodup := by
  unfold ins
  split
  · exact h
  · rename_i z
    rw [List.nodup_append]
    exact ⟨h, by simp, fun a ha b hb e => z (by rw [← show b = c by simpa using hb, ← e]; exact ha)⟩
theorem ins_len (acc : List (List Int)) (c : List Int) : (ins acc c).length ≤ acc.length + 1 := by
  unfold ins
  split <;> simp
theorem insA_mem (xs : List (List Int)) : ∀ {acc : List (List Int)} {x : List Int}, x ∈ xs.foldl ins acc ↔ x ∈ acc ∨ x ∈ xs := by
  induction xs with
  | nil => intro acc x; simp
  | cons y xs ih =>
    intro acc x
    rw [List.foldl_cons, ih, ins_mem, List.mem_cons, or_assoc]
theorem insA_nodup (xs : List (List Int)) : ∀ {acc : List (List Int)}, acc.Nodup → (xs.foldl ins acc).Nodup := by
  induction xs with
  | nil => exact fun h => h
  | cons y xs ih => exact fun h => ih (ins_nodup h)
theorem insA_len (xs : List (List Int)) : ∀ {acc : List (List Int)}, (xs.foldl ins acc).length ≤ acc.length + xs.length := by
  induction xs with
  | nil => intro acc; simp
  | cons y xs ih =>
    intro acc
    have h1 := ih (acc := ins acc y)
    have h2 := ins_len acc y
    rw [List.foldl_cons, List.length_cons]
    omega
theorem lay_nodup (R : Rounds) (ps : List Str) : ∀ k, (lay R ps k).Nodup
  | 0 => by simp [lay]
  | k + 1 => insA_nodup _ .nil
theorem lay_succ {R : Rounds} {ps : List Str} {k : Nat} {x : List Int} : x ∈ lay R ps (k + 1) ↔ ∃ c ∈ lay R ps k, ∃ s ∈ canAt R k, allowB R ps k s = true ∧ x = bumpI c (idxS R s) := by
  show x ∈ (_ : List (List Int)).foldl ins [] ↔ _
  rw [insA_mem]
  simp only [List.not_mem_nil, false_or, List.mem_flatMap, bumps, List.mem_map, List.mem_filter]
  constructor
  · rintro ⟨c, hc, s, ⟨hs, ha⟩, e⟩
    exact ⟨c, hc, s, hs, ha, e.symm⟩
  · rintro ⟨c, hc, s, hs, ha, e⟩
    exact ⟨c, hc, s, ⟨hs, ha⟩, e.symm⟩
theorem lay_ok {R : Rounds} {ps : List Str} : ∀ {k : Nat} {c : List Int}, c ∈ lay R ps k → c.length = (namesQ R).length ∧ ∀ x ∈ c, 0 ≤ x ∧ x ≤ (k : Int)
  | 0, c, h => by
    have e : c = List.replicate (namesQ R).length 0 := by simpa [lay] using h
    subst e
    refine ⟨List.length_replicate, fun x hx => ?_⟩
    rw [(List.mem_replicate.mp hx).2]
    exact ⟨Int.le_refl _, Int.le_refl _⟩
  | k + 1, c, h => by
    obtain ⟨c0, hc, s, hs, ha, rfl⟩ := lay_succ.mp h
    obtain ⟨h1, h2⟩ := lay_ok hc
    have hl : idxS R s < c0.length := by rw [h1]; exact idx_lt (can_names hs)
    refine ⟨by rw [bump_len hl]; exact h1, fun x hx => ?_⟩
    rw [bump_set hl] at hx
    rcases List.mem_or_eq_of_mem_set hx with z | z
    · have := h2 x z
      omega
    · have hm : c0.getD (idxS R s) 0 ∈ c0 := by
        rw [List.getD_eq_getElem?_getD, List.getElem?_eq_getElem hl]
        exact List.getElem_mem hl
      have := h2 _ hm
      omega
/-- few at each place -/
theorem can_len_names {R : Rounds} (w : Wf R) (k : Nat) : (canAt R k).length ≤ (namesQ R).length := by
  refine nodup_sub_len ?_ fun s hs => can_names hs
  unfold canAt
  cases e : R[k]? with
  | none => exact .nil
  | some r =>
    have nd := (w.rows r (List.mem_of_getElem? e)).nd
    unfold canQ
    exact (List.Sublist.map Prod.fst (List.filter_sublist (l := r))).nodup nd
theorem flatMap_len {α β : Type} (f : α → List β) (n : Nat) : ∀ xs : List α, (∀ x ∈ xs, (f x).length ≤ n) → (xs.flatMap f).length ≤ xs.length * n
  | [], _ => by simp
  | x :: xs, h => by
    rw [List.flatMap_cons, List.length_append, List.length_cons, Nat.succ_mul]
    have h1 := h x (by simp)
    have h2 := flatMap_len f n xs fun y hy => h y (by simp [hy])
    omega
theorem bumps_len {R : Rounds} {ps : List Str} {k : Nat} {c : List Int} {cs : List Str} : (bumps R ps k c cs).length ≤ cs.length := by
  unfold bumps
  rw [List.length_map]
  exact List.length_filter_le _ _
theorem lay_len {R : Rounds} (w : Wf R) (ps : List Str) : ∀ k, (lay R ps k).length ≤ (namesQ R).length ^ k
  | 0 => by simp [lay]
  | k + 1 => by
    have ih := lay_len w ps k
    have h1 := insA_len ((lay R ps k).flatMap fun c => bumps R ps k c (canAt R k)) (acc := [])
    have h2 := flatMap_len (fun c => bumps R ps k c (canAt R k)) (namesQ R).length (lay R ps k) fun c _ => Nat.le_trans bumps_len (can_len_names w k)
    have h3 : (lay R ps k).length * (namesQ R).length ≤ (namesQ R).length ^ (k + 1) := by
      rw [Nat.pow_succ]
      exact Nat.mul_le_mul_right _ ih
    show ((_ : List (List Int)).foldl ins []).length ≤ _
    simp only [List.length_nil, Nat.zero_add] at h1
    omega
/-- as long as payers are given there is but one -/
theorem lay_given {R : Rounds} {ps : List Str} (hp : Pays R ps) : ∀ k, k ≤ ps.length → ∀ c ∈ lay R ps k, c = cntQ R (ps.take k)
  | 0, _, c, h => by
    have e : c = List.replicate (namesQ R).length 0 := by simpa [lay] using h
    rw [e, List.take_zero]
    unfold cntQ
    rw [← List.map_const']
    rfl
  | k + 1, hk, c, h => by
    obtain ⟨c0, hc, s, hs, ha, rfl⟩ := lay_succ.mp h
    have ih := lay_given hp k (by omega) c0 hc
    have hps : ps[k]? = some s := by
      unfold allowB at ha
      rw [Bool.or_eq_true, decide_eq_true_iff, decide_eq_true_iff] at ha
      exact ha.resolve_left (by omega)
    rw [ih, bump_cnt (can_names hs), ← take_succ_of hps]
theorem lay_allow {R : Rounds} {ps : List Str} (hp : Pays R ps) {k : Nat} {c : List Int} {s : Str} (hc : c ∈ lay R ps k) (hs : s ∈ canAt R k) : bumpI c (idxS R s) ∈ lay R ps (k + 1) ↔ allowB R ps k s = true := by
  constructor
  · intro h
    by_cases hk : ps.length ≤ k
    · unfold allowB
      rw [decide_eq_true hk]
      rfl
    · obtain ⟨c1, hc1, t, ht, ha, e⟩ := lay_succ.mp h
      have e0 := lay_given hp k (by omega) c hc
      have e1 := lay_given hp k (by omega) c1 hc1
      have hl : c.length = (namesQ R).length := (lay_ok hc).1
      rw [e1, ← e0] at e
      have := bump_inj (by rw [hl]; exact idx_lt (can_names hs)) (by rw [hl]; exact idx_lt (can_names ht)) e
      rw [idx_inj (can_names hs) (can_names ht) this]
      exact ha
  · intro h
    exact lay_succ.mpr ⟨c, hc, s, hs, h, rfl⟩
/-! the least greatest gap from a place on -/
def minO : Option Rat → Rat → Option Rat
  | none, v => some v
  | some u, v => if v < u then some v else some u
def gapC (R : Rounds) (k : Nat) (c : List Int) : Rat := gapG R k ((namesQ R).zip c)
def nearS (R : Rounds) (ps : List Str) (k : Nat) (f : List Int → Option Rat) (c : List Int) (acc : Option Rat) (s : Str) : Option Rat :=
  if allowB R ps k s then (match f (bumpI c (idxS R s)) with | some v => minO acc (maxQ (gapC R k (bumpI c (idxS R s))) v) | none => acc) else acc
def nearF (R : Rounds) (ps : List Str) : Nat → List Int → Option Rat
  | 0, _ => some 0
  | d + 1, c => (canAt R (R.length - (d + 1))).foldl (nearS R ps (R.length - (d + 1)) (nearF R ps d) c) none
/-- from a place on: payers who can, the given ones where they are given -/
def Tl (R : Rounds) (ps : List Str) (k : Nat) (ts : List Str) : Prop := k + ts.length = R.length ∧ ∀ i s, ts[i]? = some s → s ∈ canAt R (k + i) ∧ allowB R ps (k + i) s = true
def valT (R : Rounds) : Nat → List Int → List Str → Rat
  | _, _, [] => 0
  | k, c, s :: ts => maxQ (gapC R k (bumpI c (idxS R s))) (valT R (k + 1) (bumpI c (idxS R s)) ts)
theorem Tl.cons {R : Rounds} {ps : List Str} {k : Nat} {s : Str} {ts : List Str} : Tl R ps k (s :: ts) ↔ (s ∈ canAt R k ∧ allowB R ps k s = true) ∧ Tl R ps (k + 1) ts := by
  unfold Tl
  constructor
  · rintro ⟨h1, h2⟩
    refine ⟨by simpa using h2 0 s rfl, by rw [List.length_cons] at h1; omega, fun i t e => ?_⟩
    have := h2 (i + 1) t (by rw [List.getElem?_cons_succ]; exact e)
    rw [show k + (i + 1) = k + 1 + i by omega] at this
    exact this
  · rintro ⟨h0, h1, h2⟩
    refine ⟨by rw [List.length_cons]; omega, fun i t e => ?_⟩
    cases i with
    | zero =>
      have e : s = t := Option.some.inj e
      subst e
      exact h0
    | succ i =>
      rw [List.getElem?_cons_succ] at e
      have := h2 i t e
      rw [show k + (i + 1) = k + 1 + i by omega]
      exact this
theorem le_max (a b : Rat) : a ≤ maxQ a b ∧ b ≤ maxQ a b := max_le.mp Rat.le_refl
theorem minO_spec (acc : Option Rat) (v : Rat) : ∃ u, minO acc v = some u ∧ u ≤ v ∧ (∀ x, acc = some x → u ≤ x) ∧ (u = v ∨ acc = some u) := by
  cases acc with
  | none => exact ⟨v, rfl, Rat.le_refl, (fun x e => nomatch e), .inl rfl⟩
  | some x =>
    unfold minO
    by_cases h : v < x
    · simp only [if_pos h]
      exact ⟨v, rfl, Rat.le_refl, fun y e => by cases e; exact Rat.le_of_lt h, .inl rfl⟩
    · simp only [if_neg h]
      exact ⟨x, rfl, Rat.not_lt.mp h, fun y e => by cases e; exact Rat.le_refl, .inr rfl⟩
/-- over some names -/
theorem nearS_spec {R : Rounds} {ps : List Str} {k : Nat} {f : List Int → Option Rat} {c : List Int} : ∀ (cs : List Str) (acc : Option Rat),
    (∀ x, acc = some x → ∃ u, cs.foldl (nearS R ps k f c) acc = some u ∧ u ≤ x) ∧
    (∀ s ∈ cs, allowB R ps k s = true → ∀ v, f (bumpI c (idxS R s)) = some v → ∃ u, cs.foldl (nearS R ps k f c) acc = some u ∧ u ≤ maxQ (gapC R k (bumpI c (idxS R s))) v) ∧
    (∀ u, cs.foldl (nearS R ps k f c) acc = some u → acc = some u ∨ ∃ s ∈ cs, allowB R ps k s = true ∧ ∃ v, f (bumpI c (idxS R s)) = some v ∧ u = maxQ (gapC R k (bumpI c (idxS R s))) v)
  | [], acc => ⟨fun x e => ⟨x, e, Rat.le_refl⟩, (fun s hs => nomatch hs), fun u e => .inl e⟩
  | t :: cs, acc => by
    obtain ⟨i1, i2, i3⟩ := nearS_spec (R := R) (ps := ps) (k := k) (f := f) (c := c) cs (nearS R ps k f c acc t)
    rw [List.foldl_cons]
    have one : ∀ x, acc = some x → ∃ u, nearS R ps k f c acc t = some u ∧ u ≤ x := fun x e => by
      unfold nearS
      split
      · cases hf : f (bumpI c (idxS R t)) with
        | none => exact ⟨x, e, Rat.le_refl⟩
        | some v =>
          obtain ⟨u, h1, h2, h3, h4⟩ := minO_spec acc (maxQ (gapC R k (bumpI c (idxS R t))) v)
          exact ⟨u, h1, h3 x e⟩
      · exact ⟨x, e, Rat.le_refl⟩
    refine ⟨fun x e => ?_, fun s hs ha v hv => ?_, fun u e => ?_⟩
    · obtain ⟨u, h1, h2⟩ := one x e
      obtain ⟨u', h3, h4⟩ := i1 u h1
      exact ⟨u', h3, Rat.le_trans h4 h2⟩
    · rcases List.mem_cons.mp hs with z | z
      · subst z
        obtain ⟨u, h1, h2, h3, h4⟩ := minO_spec acc (maxQ (gapC R k (bumpI c (idxS R s))) v)
        have e1 : nearS R ps k f c acc s = some u := by
          unfold nearS
          rw [if_pos ha, hv]
          exact h1
        obtain ⟨u', h5, h6⟩ := i1 u e1
        exact ⟨u', h5, Rat.le_trans h6 h2⟩
      · exact i2 s z ha v hv
    · rcases i3 u e with z | ⟨s, hs, ha, v, hv, eu⟩
      · unfold nearS at z
        split at z
        · rename_i hal
          cases hf : f (bumpI c (idxS R t)) with
          | none => rw [hf] at z; exact .inl z
          | some v =>
            rw [hf] at z
            obtain ⟨u2, h1, h2, h3, h4⟩ := minO_spec acc (maxQ (gapC R k (bumpI c (idxS R t))) v)
            have z : minO acc (maxQ (gapC R k (bumpI c (idxS R t))) v) = some u := z
            rw [h1] at z
            cases z
            rcases h4 with q | q
            · exact .inr ⟨t, by simp, hal, v, hf, q⟩
            · exact .inl q
        · exact .inl z
      · exact .inr ⟨s, by simp [hs], ha, v, hv, eu⟩
theorem allow_some {R : Rounds} (w : Wf R) {ps : List Str} (hp : Pays R ps) {k : Nat} (hk : k < R.length) : ∃ s ∈ canAt R k, allowB R ps k s = true := by
  have hr : R[k]? = some R[k] := List.getElem?_eq_getElem hk
  by_cases h : ps.length ≤ k
  · obtain ⟨s, hs⟩ := List.exists_mem_of_ne_nil _ (can_ne (w.rows _ (List.getElem_mem hk)))
    refine ⟨s, by unfold canAt; rw [hr]; exact hs, ?_⟩
    unfold allowB
    rw [decide_eq_true h]
    rfl
  · have hps : ps[k]? = some ps[k] := List.getElem?_eq_getElem (by omega)
    refine ⟨ps[k], by unfold canAt; rw [hr]; exact hp.2 k _ _ hr hps, ?_⟩
    unfold allowB
    rw [hps]
    simp
theorem near_spec {R : Rounds} (w : Wf R) {ps : List Str} (hp : Pays R ps) : ∀ (d : Nat) (c : List Int), d ≤ R.length → ∃ v, nearF R ps d c = some v ∧ (∃ ts, Tl R ps (R.length - d) ts ∧ valT R (R.length - d) c ts = v) ∧ ∀ ts, Tl R ps (R.length - d) ts → v ≤ valT R (R.length - d) c ts
  | 0, c, _ => ⟨0, rfl, ⟨[], ⟨by simp, fun i s e => by simp at e⟩, rfl⟩, fun ts h => by
    have : ts = [] := List.eq_nil_of_length_eq_zero (by have := h.1; omega)
    subst this
    exact Rat.le_refl⟩
  | d + 1, c, hd => by
    have ek : R.length - (d + 1) + 1 = R.length - d := by omega
    obtain ⟨n1, n2, n3⟩ := nearS_spec (R := R) (ps := ps) (k := R.length - (d + 1)) (f := nearF R ps d) (c := c) (canAt R (R.length - (d + 1))) none
    obtain ⟨s0, hs0, ha0⟩ := allow_some w hp (k := R.length - (d + 1)) (by omega)
    obtain ⟨v0, hv0, _⟩ := near_spec w hp d (bumpI c (idxS R s0)) (by omega)
    obtain ⟨u, hu, _⟩ := n2 s0 hs0 ha0 v0 hv0
    refine ⟨u, hu, ?_, fun ts ht => ?_⟩
    · rcases n3 u hu with z | ⟨s, hs, ha, v, hv, eu⟩
      · cases z
      · obtain ⟨v', hv', ⟨ts, ht, et⟩, _⟩ := near_spec w hp d (bumpI c (idxS R s)) (by omega)
        rw [hv] at hv'
        cases hv'
        refine ⟨s :: ts, Tl.cons.mpr ⟨⟨hs, ha⟩, by rw [ek]; exact ht⟩, ?_⟩
        show maxQ _ (valT R (R.length - (d + 1) + 1) _ ts) = u
        rw [ek, et, eu]
    · cases ts with
      | nil =>
        have := ht.1
        rw [List.length_nil] at this
        omega
      | cons s ts =>
        obtain ⟨⟨hs, ha⟩, ht⟩ := Tl.cons.mp ht
        rw [ek] at ht
        obtain ⟨v, hv, _, hlow⟩ := near_spec w hp d (bumpI c (idxS R s)) (by omega)
        obtain ⟨u', hu', hle⟩ := n2 s hs ha v hv
        have e2 : u' = u := Option.some.inj (hu'.symm.trans hu)
        subst e2
        have hlt := hlow ts ht
        show u' ≤ maxQ _ (valT R (R.length - (d + 1) + 1) _ ts)
        rw [ek]
        refine Rat.le_trans hle (max_le.mpr ⟨(le_max _ _).1, Rat.le_trans hlt (le_max _ _).2⟩)
/-! ways as tails from the first place on -/
theorem way_tl {R : Rounds} {ps ws : List Str} (hp : ps.length ≤ R.length) : Way R ps ws ↔ Tl R ps 0 ws := by
  rw [way_on hp]
  unfold Tl
  constructor
  · intro h
    refine ⟨by rw [Nat.zero_add]; exact h.len, fun i s e => ?_⟩
    rw [Nat.zero_add]
    refine ⟨h.can i s e, ?_⟩
    unfold allowB
    by_cases hi : ps.length ≤ i
    · rw [decide_eq_true hi]; rfl
    · rw [← h.pre i (by omega), e]
      simp
  · rintro ⟨h1, h2⟩
    rw [Nat.zero_add] at h1
    refine ⟨h1, fun i s e => by have := (h2 i s e).1; rw [Nat.zero_add] at this; exact this, fun i hi => ?_⟩
    have hw : ws[i]? = some ws[i] := List.getElem?_eq_getElem (by omega)
    have := (h2 i _ hw).2
    rw [Nat.zero_add] at this
    unfold allowB at this
    rw [Bool.or_eq_true, decide_eq_true_iff, decide_eq_true_iff] at this
    rw [hw, this.resolve_left (by omega)]
theorem val_le {R : Rounds} {ws : List Str} (hn : ∀ s ∈ ws, s ∈ namesQ R) {v : Rat} : ∀ (ts : List Str) (k : Nat), ws.drop k = ts → k ≤ ws.length → (valT R k (cntQ R (ws.take k)) ts ≤ v ↔ 0 ≤ v ∧ ∀ j, k ≤ j → j < ws.length → gapAt R ws j ≤ v)
  | [], k, e, hk => by
    have : k = ws.length := by
      have := congrArg List.length e
      rw [List.length_drop, List.length_nil] at this
      omega
    constructor
    · exact fun h => ⟨h, fun j h1 h2 => by omega⟩
    · exact fun h => h.1
  | s :: ts, k, e, hk => by
    have hlt : k < ws.length := by
      have := congrArg List.length e
      rw [List.length_drop, List.length_cons] at this
      omega
    have hs : ws[k]? = some s := by
      have := congrArg (fun l => l[0]?) e
      simp only [List.getElem?_drop, Nat.add_zero] at this
      exact this
    have hd : ws.drop (k + 1) = ts := by
      have := congrArg (List.drop 1) e
      rw [List.drop_drop] at this
      exact this
    have hsn : s ∈ namesQ R := hn s (List.mem_of_getElem? hs)
    have eb : bumpI (cntQ R (ws.take k)) (idxS R s) = cntQ R (ws.take (k + 1)) := by rw [bump_cnt hsn, take_succ_of hs]
    have eg : gapC R k (cntQ R (ws.take (k + 1))) = gapAt R ws k := gapG_counts R ws k
    show maxQ (gapC R k (bumpI (cntQ R (ws.take k)) (idxS R s))) (valT R (k + 1) (bumpI (cntQ R (ws.take k)) (idxS R s)) ts) ≤ v ↔ _
    rw [eb, max_le, val_le hn ts (k + 1) hd (by omega), eg]
    constructor
    · rintro ⟨h1, h0, h2⟩
      refine ⟨h0, fun j j1 j2 => ?_⟩
      by_cases z : j = k
      · rw [z]; exact h1
      · exact h2 j (by omega) j2
    · rintro ⟨h0, h2⟩
      exact ⟨h2 k (Nat.le_refl _) hlt, h0, fun j j1 j2 => h2 j (by omega) j2⟩
theorem gapAt_le {R : Rounds} {ws : List Str} {k : Nat} {v : Rat} : gapAt R ws k ≤ v ↔ 0 ≤ v ∧ ∀ s ∈ namesQ R, gapQ R ws s k ≤ v := by
  unfold gapAt
  exact fold_max_le (fun s => gapQ R ws s k) v _ _
theorem cnt_nil (R : Rounds) : cntQ R [] = List.replicate (namesQ R).length 0 := by
  unfold cntQ
  rw [← List.map_const']
  rfl
theorem val_unf {R : Rounds} {ws : List Str} (hn : ∀ s ∈ ws, s ∈ namesQ R) : valT R 0 (List.replicate (namesQ R).length 0) ws = unfQ R ws := eq_of_ups fun v => by
  have z := val_le (R := R) (ws := ws) hn (v := v) ws 0 rfl (Nat.zero_le _)
  rw [List.take_zero, cnt_nil] at z
  rw [z, unf_le]
  constructor
  · rintro ⟨h0, h⟩
    exact ⟨h0, fun s hs k hk => (gapAt_le.mp (h k (Nat.zero_le _) hk)).2 s hs⟩
  · rintro ⟨h0, h⟩
    exact ⟨h0, fun k _ hk => gapAt_le.mpr ⟨h0, fun s hs => h s hs k hk⟩⟩
theorem Pays.names {R : Rounds} {ws : List Str} (h : Pays R ws) : ∀ s ∈ ws, s ∈ namesQ R := fun s hs => by
  obtain ⟨r, hr, g, hg, e⟩ := h.mem hs
  rw [names_mem]
  unfold allN
  exact List.mem_flatMap.mpr ⟨r, hr, List.mem_map.mpr ⟨g, hg, e⟩⟩
/-- all ways gone through come to the least unfairness -/
theorem near_least {R : Rounds} (w : Wf R) {ps : List Str} (hp : Pays R ps) : nearF R ps R.length (List.replicate (namesQ R).length 0) = some (leastQ R ps) := by
  obtain ⟨v, hv, ⟨ts, ht, et⟩, hlow⟩ := near_spec w hp R.length (List.replicate (namesQ R).length 0) (Nat.le_refl _)
  rw [Nat.sub_self] at ht et hlow
  have wt := (way_tl hp.1).mpr ht
  have z : IsLeast R ps v := ⟨⟨ts, wt, by rw [← et, val_unf wt.pays.names]⟩, fun ws hw => by
    have := hlow ws ((way_tl hp.1).mp hw)
    rw [val_unf hw.pays.names] at this
    exact this⟩
  rw [hv, leastQ_eq z]
end RF

set_option Elab.async false
set_option linter.all false
set_option maxRecDepth 100000
set_option maxHeartbeats 4000000
set_option autoImplicit false
set_option exponentiation.threshold 6000
namespace RF
open PySem L2
/-! ### _law_ways -/
def keyC (c : List Int) : List Key := c.map gkI
theorem gkI_inj {a b : Int} (h : gkI a = gkI b) : a = b := Sum.inl.inj h
theorem keyC_inj : ∀ {a b : List Int}, keyC a = keyC b → a = b
  | [], [], _ => rfl
  | [], _ :: _, h => by cases h
  | _ :: _, [], h => by cases h
  | x :: xs, y :: ys, h => by
    obtain ⟨h1, h2⟩ := List.cons.inj h
    rw [gkI_inj h1, keyC_inj h2]
def kvT (c : List Int) : List Key × D := (keyC c, .bl true)
def layKV (R : Rounds) (ps : List Str) (k : Nat) : List (List Key × D) := (lay R ps k).map kvT
def nearP (R : Rounds) (ps : List Str) (d : Nat) (c : List Int) : Option (List Key × D) := (nearF R ps d c).map fun v => (keyC c, fD v)
def nearKV (R : Rounds) (ps : List Str) (k : Nat) : List (List Key × D) := (lay R ps k).filterMap (nearP R ps (R.length - k))
def waysD (R : Rounds) (ps : List Str) : D := .lst ((List.range (R.length + 1)).map fun k => .dt (nearKV R ps k))
structure WfW (R : Rounds) (ps : List Str) : Prop where
  k : WfK R
  p : Pays R ps
  few : (namesQ R).length ^ R.length ≤ 5000000
def preWy (x : RP) : Prop := WfW x.1 x.2
def sp_law_ways (K : PySem.W.Frag) : Sp := spP K false encRP preWy (fun x d => d = waysD x.1 x.2)
theorem names_pos {R : Rounds} (w : WfK R) : 1 ≤ (namesQ R).length := by
  have hT : 0 < R.length := List.length_pos_iff.mpr w.ne
  obtain ⟨s, hs⟩ := List.exists_mem_of_ne_nil _ (can_ne (w.w.rows _ (List.getElem_mem hT)))
  have : s ∈ namesQ R := can_names (a := 0) (by unfold canAt; rw [List.getElem?_eq_getElem hT]; exact hs)
  exact List.length_pos_of_mem this
theorem WfW.lay {R : Rounds} {ps : List Str} (h : WfW R ps) {k : Nat} (hk : k ≤ R.length) : (lay R ps k).length ≤ 5000000 :=
  Nat.le_trans (Nat.le_trans (lay_len h.k.w ps k) (Nat.pow_le_pow_right (names_pos h.k) hk)) h.few
theorem put_ins (acc : List (List Int)) (c : List Int) : putD (acc.map kvT) (keyC c) (.bl true) = (ins acc c).map kvT := by
  have e : (acc.map kvT).any (fun kv => decide (kv.1 = keyC c)) = decide (c ∈ acc) := by
    rw [List.any_map, Bool.eq_iff_iff, List.any_eq_true, decide_eq_true_iff]
    constructor
    · rintro ⟨x, hx, ex⟩
      rw [← keyC_inj (of_decide_eq_true ex)]
      exact hx
    · exact fun h => ⟨c, h, decide_eq_true rfl⟩
  unfold putD ins
  rw [e]
  by_cases h : c ∈ acc
  · rw [if_pos (decide_eq_true h), if_pos h, List.map_map]
    refine List.map_congr_left fun x _ => ?_
    show (if keyC x = keyC c then (keyC x, D.bl true) else kvT x) = kvT x
    split <;> rfl
  · rw [if_neg (fun z => h (of_decide_eq_true z)), if_neg h, List.map_append]
    rfl
theorem near_keys {R : Rounds} {ps : List Str} {d : Nat} : ∀ (cs : List (List Int)), cs.Nodup → ((cs.filterMap (nearP R ps d)).map (·.1)).Nodup
  | [], _ => .nil
  | c :: cs, h => by
    obtain ⟨h1, h2⟩ := List.nodup_cons.mp h
    have ih := near_keys (R := R) (ps := ps) (d := d) cs h2
    cases e : nearP R ps d c with
    | none => rw [List.filterMap_cons_none e]; exact ih
    | some q =>
      rw [List.filterMap_cons_some e, List.map_cons, List.nodup_cons]
      refine ⟨fun z => ?_, ih⟩
      obtain ⟨x, hx, ex⟩ := List.mem_map.mp z
      obtain ⟨c', hc', ec⟩ := List.mem_filterMap.mp hx
      unfold nearP at e ec
      obtain ⟨v, _, e1⟩ := Option.map_eq_some_iff.mp e
      obtain ⟨v', _, e2⟩ := Option.map_eq_some_iff.mp ec
      rw [← e1, ← e2] at ex
      exact h1 (by rw [← keyC_inj (show keyC c' = keyC c from ex)]; exact hc')
theorem near_get {R : Rounds} {ps : List Str} {d : Nat} {cs : List (List Int)} (hn : cs.Nodup) {c : List Int} {v : Rat} (hc : c ∈ cs) (hv : nearF R ps d c = some v) : getD' (cs.filterMap (nearP R ps d)) (keyC c) = some (fD v) :=
  getD'_of_mem (near_keys cs hn) (List.mem_filterMap.mpr ⟨c, hc, by unfold nearP; rw [hv]; rfl⟩)
theorem near_not {R : Rounds} {ps : List Str} {d : Nat} {cs : List (List Int)} {c : List Int} (hc : c ∉ cs) : getD' (cs.filterMap (nearP R ps d)) (keyC c) = none := by
  rw [getD'_none_iff]
  intro z
  obtain ⟨x, hx, ex⟩ := List.mem_map.mp z
  obtain ⟨c', hc', ec⟩ := List.mem_filterMap.mp hx
  unfold nearP at ec
  obtain ⟨v', _, e2⟩ := Option.map_eq_some_iff.mp ec
  rw [← e2] at ex
  exact hc (by rw [← keyC_inj (show keyC c' = keyC c from ex)]; exact hc')
theorem gapC_bq {R : Rounds} (w : Wf R) (k : Nat) {c : List Int} (h : ∀ x ∈ c, x.natAbs ≤ 1000) : Bq (2 ^ 900) (gapC R k c) := by
  unfold gapC gapG
  exact gapG_bq w k _ (fun x hx => h x.2 (List.of_mem_zip hx).2) 0 (.zero (Nat.pos_of_ne_zero (by decide)))
theorem lay_abs {R : Rounds} (w : Wf R) {ps : List Str} {k : Nat} (hk : k ≤ R.length) {c : List Int} (h : c ∈ lay R ps k) : ∀ x ∈ c, x.natAbs ≤ 1000 := fun x hx => by
  have := (lay_ok h).2 x hx
  have := w.len
  omega
theorem near_bq {R : Rounds} (w : Wf R) {ps : List Str} : ∀ (d : Nat) (c : List Int) (v : Rat), d ≤ R.length → c ∈ lay R ps (R.length - d) → nearF R ps d c = some v → Bq (2 ^ 900) v
  | 0, c, v, _, _, h => by
    have : v = 0 := (Option.some.inj h).symm
    rw [this]
    exact .zero (Nat.pos_of_ne_zero (by decide))
  | d + 1, c, v, hd, hc, h => by
    obtain ⟨_, _, n3⟩ := nearS_spec (R := R) (ps := ps) (k := R.length - (d + 1)) (f := nearF R ps d) (c := c) (canAt R (R.length - (d + 1))) none
    rcases n3 v h with z | ⟨s, hs, ha, v', hv', e⟩
    · cases z
    · have hb : bumpI c (idxS R s) ∈ lay R ps (R.length - (d + 1) + 1) := lay_succ.mpr ⟨c, hc, s, hs, ha, rfl⟩
      have ek : R.length - (d + 1) + 1 = R.length - d := by omega
      rw [ek] at hb
      rw [e]
      exact (gapC_bq w _ (lay_abs w (by omega) hb)).max (near_bq w d _ v' (by omega) hb hv')
/-- where one stands among the names of one place -/
def runO (R : Rounds) (ps : List Str) (k : Nat) (c : List Int) (cs : List Str) : Option Rat := cs.foldl (nearS R ps k (nearF R ps (R.length - (k + 1))) c) none
theorem run_all {R : Rounds} {ps : List Str} {k : Nat} (hk : k < R.length) (c : List Int) : runO R ps k c (canAt R k) = nearF R ps (R.length - k) c := by
  have e : R.length - k = (R.length - (k + 1)) + 1 := by omega
  rw [e]
  show _ = (canAt R (R.length - (R.length - (k + 1) + 1))).foldl (nearS R ps (R.length - (R.length - (k + 1) + 1)) (nearF R ps (R.length - (k + 1))) c) none
  rw [show R.length - (R.length - (k + 1) + 1) = k by omega]
  rfl
def optKV (c : List Int) : Option Rat → List (List Key × D)
  | none => []
  | some v => [(keyC c, fD v)]
theorem ixN_last (n : Nat) : ixN (n + 1) (-1) = some n := by
  unfold ixN
  rw [if_neg (by decide), if_pos (by omega)]
  congr 1
  omega
theorem at_lastG (f : Nat → D) (i : Nat) : atI ((List.range (i + 1)).map f) (-1) = some (f i) := by
  unfold atI
  rw [List.length_map, List.length_range, ixN_last]
  show ((List.range (i + 1)).map f)[i]? = _
  rw [List.getElem?_map, List.getElem?_range (Nat.lt_succ_self i)]
  rfl
theorem at_G (f : Nat → D) {i n : Nat} (h : i < n) : atI ((List.range n).map f) (i : Int) = some (f i) := atI_nat (by rw [List.getElem?_map, List.getElem?_range h]; rfl)
end RF

set_option Elab.async false
set_option linter.all false
set_option maxRecDepth 100000
set_option maxHeartbeats 4000000
set_option autoImplicit false
set_option exponentiation.threshold 6000
namespace RF
open PySem L2
section
variable {K : PySem.W.Frag} {lk : Bool} {w0 w w' w1 : Wd} {μ μ' : Mu} {L L' : Addr → Prop} {σ σ' : St} {ρ ρ' : List Sl} {te ta tb : TE} {tt tu : TT} {t u : TS} {p : PoX} {P : D → Prop} {X Y : D → Mu → Prop} {d : D} {g : TG} {wi : TI}
theorem sx_letG (h : EX K lk L te ρ μ X) (k : ∀ d μ', X d μ' → ∃ ρ', TgX K lk L g d ρ ρ' ∧ StX K lk L u ρ' μ' p) : StX K lk L (tSeq (tAsg te g) u) ρ μ p := fun w0 w σ E s f => h w0 w σ s _ fun v w' d μ' s' r c => by
  obtain ⟨ρ', tg, st⟩ := k d μ' c
  exact tg w0 w' σ v μ' s' r _ fun σ' s2 => st w0 w' σ' E s2 f
/-- slots: 0 rounds, 1 payers, 2 dues_so, 3 guests, 4 layers, 5 place, 6 row, 7 later, 8 counts, 9 name, 10 at, 11 nearest, 12 layer, 13 gaps_so, 14 there, 15 gap, 16 rest -/
def t_law_ways (K : PySem.W.Frag) : TS := (tSeq (tAsg (tTupU (tCons (tCall (sp_law_dues K) [] E0 (tCons (tVar 0) tNil)) (tCons (tCall (sp_law_names K) [] E0 (tCons (tVar 0) tNil)) tNil))) (gTup K 2 (gCons (gName 2) (gCons (gName 3) gNil)))) (tSeq (tAsg (tLst (tCons (eFz (tDisp1 (tOp (rMulU K) (tTupU (tCons (tC (.int 0)) tNil)) (tCB (rLenU K) (tCons (tVar 3) tNil))) (tC (.bl true)))) tNil)) (gName 4)) (tSeq (tFor (iEnumU K (tCons (tVar 0) tNil)) (gTup K 2 (gCons (gName 5) (gCons (gName 6) gNil))) (tSeq (tAsg (eOr tDNewK tDNewT) (gName 7)) (tSeq (tFor (iKeys (rIxU K (tVar 4) (tUn (rU fun i => .int (-i)) (tC (.int 1))))) (gName 8) (tFor (iSeq K (tCall (sp_law_can K) [] E0 (tCons (tVar 6) tNil))) (gName 9) (tIfS (tOr (tTest (tOp rGeI (tVar 5) (tCB (rLenU K) (tCons (tVar 1) tNil)))) (tTest (tOp (rEqU K) (rIxU K (tVar 1) (tVar 5)) (tVar 9)))) (tSeq (tAsg (tBM K "list" (rIndex K) (tVar 3) (tCons (tVar 9) tNil)) (gName 10)) (sPutU (tVar 7) (tOp (rAddU K) (tOp (rAddU K) (tSl (slU K) (tVar 8) tNoPart (tPart (tVar 10))) (tTupU (tCons (tOp (rAddU K) (rIxU K (tVar 8) (tVar 10)) (tC (.int 1))) tNil))) (tSl (slU K) (tVar 8) (tPart (tOp (rAddU K) (tVar 10) (tC (.int 1)))) tNoPart)) (tC (.bl true)))) tNext))) (tFz (tDrop (tBM K "list" rAppend (tVar 4) (tCons (tVar 7) tNil))))))) (tSeq (tAsg (tLc (iSeq K (tVar 4)) (gName 12) tYes (eOr tDNewK tDNewT) [12]) (gName 11)) (tSeq (sPutU (tVar 11) (tUn (rU fun i => .int (-i)) (tC (.int 1))) (tCB (rDictU K) (tCons (tLc (iKeys (rIxU K (tVar 4) (tUn (rU fun i => .int (-i)) (tC (.int 1))))) (gName 8) tYes (tTupU (tCons (tVar 8) (tCons (tTupU (tCons (tC (.int 0)) (tCons (tC (.int 1)) tNil))) tNil))) [8]) tNil))) (tSeq (tFor (iRng3 (tCons (tOp rSubI (tCB (rLenU K) (tCons (tVar 0) tNil)) (tC (.int 1))) (tCons (tUn (rU fun i => .int (-i)) (tC (.int 1))) (tCons (tUn (rU fun i => .int (-i)) (tC (.int 1))) tNil)))) (gName 5) (tSeq (tAsg (tCB (rDictU K) (tCons (tLc (iKeys (rIxU K (tVar 4) (tOp (rAddU K) (tVar 5) (tC (.int 1))))) (gName 8) tYes (tTupU (tCons (tVar 8) (tCons (tCall (sp_law_gap K) [] E0 (tCons (tVar 2) (tCons (tVar 5) (tCons (tVar 8) tNil)))) tNil))) [8]) tNil)) (gName 13)) (tFor (iKeys (rIxU K (tVar 4) (tVar 5))) (gName 8) (tFor (iSeq K (tCall (sp_law_can K) [] E0 (tCons (rIxU K (tVar 0) (tVar 5)) tNil))) (gName 9) (tSeq (tAsg (tBM K "list" (rIndex K) (tVar 3) (tCons (tVar 9) tNil)) (gName 10)) (tSeq (tAsg (tOp (rAddU K) (tOp (rAddU K) (tSl (slU K) (tVar 8) tNoPart (tPart (tVar 10))) (tTupU (tCons (tOp (rAddU K) (rIxU K (tVar 8) (tVar 10)) (tC (.int 1))) tNil))) (tSl (slU K) (tVar 8) (tPart (tOp (rAddU K) (tVar 10) (tC (.int 1)))) tNoPart)) (gName 14)) (tIfS (tInT K (tVar 14) (rIxU K (tVar 11) (tOp (rAddU K) (tVar 5) (tC (.int 1))))) (tSeq (tPar 15 16 (tCons (rIxU K (tVar 13) (tVar 14)) (tCons (rIxU K (rIxU K (tVar 11) (tOp (rAddU K) (tVar 5) (tC (.int 1)))) (tVar 14)) tNil))) (tSeq (tAsg (tIf (tB (tCall (sp_law_below K) [] E0 (tCons (tVar 15) (tCons (tVar 16) tNil)))) (tVar 16) (tVar 15)) (gName 15)) (tIfS (tOr (tNotInT K (tVar 8) (rIxU K (tVar 11) (tVar 5))) (tB (tCall (sp_law_below K) [] E0 (tCons (tVar 15) (tCons (rIxU K (rIxU K (tVar 11) (tVar 5)) (tVar 8)) tNil))))) (sPutU (rIxU K (tVar 11) (tVar 5)) (tVar 8) (tVar 15)) tNext))) tNext))))))) (tRet (tVar 11))))))))
def slW (R : Rounds) (ps : List Str) (x4 x5 x6 x7 x8 x9 x10 x11 x12 x13 x14 x15 x16 : Sl) : List Sl := [.dat (rsD R), .dat (.tf ps), .dat (.dk (dueKV R)), .dat (.lst ((namesQ R).map D.str)), x4, x5, x6, x7, x8, x9, x10, x11, x12, x13, x14, x15, x16]
/-- counts with one more -/
theorem ev_bump {c : List Int} {j : Nat} (h8 : ρ[8]? = some (.dat (.tk (keyC c)))) (h10 : ρ[10]? = some (.dat (.int (j : Int)))) (hj : j < c.length) (hl : c.length ≤ 1000) :
    EvD K lk (tOp (rAddU K) (tOp (rAddU K) (tSl (slU K) (tVar 8) tNoPart (tPart (tVar 10))) (tTupU (tCons (tOp (rAddU K) (rIxU K (tVar 8) (tVar 10)) (tC (.int 1))) tNil))) (tSl (slU K) (tVar 8) (tPart (tOp (rAddU K) (tVar 10) (tC (.int 1)))) tNoPart)) ρ (.tk (keyC (bumpI c j))) := by
  have hg : c[j]? = some (c.getD j 0) := by rw [List.getD_eq_getElem?_getD, List.getElem?_eq_getElem hj]; rfl
  have hk : (keyC c)[j]? = some (gkI (c.getD j 0)) := by unfold keyC; rw [List.getElem?_map, hg]; rfl
  have kl : (keyC c).length = c.length := by unfold keyC; rw [List.length_map]
  have z := eu_catK (K := K) (lk := lk) (ρ := ρ) (eu_catK (eu_toK (n := j) (ev_v h8) (ev_v h10)) (eu_tupK [gkI (c.getD j 0 + 1)] (ea_cons (eu_add (i := c.getD j 0) (j := 1) (eu_ixK (k := gkI (c.getD j 0)) (ev_v h8) (ev_v h10) hk) ev_int) ea_nil) (by show 1 ≤ 1000; decide)) (by rw [List.length_take]; simp; omega)) (eu_fromK (n := j + 1) (ev_v h8) (ev_is (eu_add (i := (j : Int)) (j := 1) (ev_v h10) ev_int) (by simp))) (by rw [List.length_append, List.length_take, List.length_drop]; simp; omega)
  refine ev_is z ?_
  congr 1
  unfold bumpI keyC
  rw [List.map_append, List.map_append, List.map_take, List.map_drop]
  rfl
theorem ev_allow {s : Str} {k : Nat} {R : Rounds} {ps : List Str} {y : D} (h1 : ρ[1]? = some (.dat (.tf ps))) (h5 : ρ[5]? = some (.dat (.int (k : Int)))) (h9 : ρ[9]? = some (.dat (.str s))) :
    EvB K lk (tOr (tTest (tOp rGeI (tVar 5) (tCB (rLenU K) (tCons (tVar 1) tNil)))) (tTest (tOp (rEqU K) (rIxU K (tVar 1) (tVar 5)) (tVar 9)))) ρ (allowB R ps k s) := by
  unfold allowB
  refine et_or (eb_is (et_test (ev_ge (ev_v h5) (ev_is (eu_lenT (ev_tf (ev_v h1))) (by rw [List.length_map])))) (by simp)) fun hp => ?_
  have hp : k < ps.length := by simpa using hp
  have hpk : ps[k]? = some ps[k] := List.getElem?_eq_getElem hp
  exact eb_is (et_test (eu_eqS (ev_tfix (ev_v h1) (ev_v h5) hpk) (ev_v h9))) (by rw [hpk]; simp)
def layL (R : Rounds) (ps : List Str) (n : Nat) : List D := (List.range n).map fun j => .ft (layKV R ps j)
theorem flat_take {α β : Type} {f : α → List β} {xs : List α} {i : Nat} {x : α} (h : xs[i]? = some x) : (xs.take (i + 1)).flatMap f = (xs.take i).flatMap f ++ f x := by
  rw [take_succ_of h, List.flatMap_append]
  simp
theorem bumps_take {R : Rounds} {ps : List Str} {k : Nat} {c : List Int} {cs : List Str} {j : Nat} {s : Str} (h : cs[j]? = some s) : bumps R ps k c (cs.take (j + 1)) = bumps R ps k c (cs.take j) ++ (if allowB R ps k s then [bumpI c (idxS R s)] else []) := filter_take_succ _ _ h
theorem st_ways1 (lk : Bool) {R : Rounds} {ps : List Str} (h : WfW R ps) {la : Addr} {u : TS} {p : PoX} {x5 x6 x7 x8 x9 x10 x11 x12 x13 x14 x15 x16 : Sl} {μ : Mu} (hm : μ la = some (.lst (layL R ps 1)))
    (k : ∀ (x5 x6 x7 x8 x9 x10 : Sl) (μ' : Mu), μ' la = some (.lst (layL R ps (R.length + 1))) → StX K lk noL u (slW R ps (.dat (.mref la)) x5 x6 x7 x8 x9 x10 x11 x12 x13 x14 x15 x16) μ' p) :
    StX K lk noL (tSeq (tFor (iEnumU K (tCons (tVar 0) tNil)) (gTup K 2 (gCons (gName 5) (gCons (gName 6) gNil))) (tSeq (tAsg (eOr tDNewK tDNewT) (gName 7)) (tSeq (tFor (iKeys (rIxU K (tVar 4) (tUn (rU fun i => .int (-i)) (tC (.int 1))))) (gName 8) (tFor (iSeq K (tCall (sp_law_can K) [] E0 (tCons (tVar 6) tNil))) (gName 9) (tIfS (tOr (tTest (tOp rGeI (tVar 5) (tCB (rLenU K) (tCons (tVar 1) tNil)))) (tTest (tOp (rEqU K) (rIxU K (tVar 1) (tVar 5)) (tVar 9)))) (tSeq (tAsg (tBM K "list" (rIndex K) (tVar 3) (tCons (tVar 9) tNil)) (gName 10)) (sPutU (tVar 7) (tOp (rAddU K) (tOp (rAddU K) (tSl (slU K) (tVar 8) tNoPart (tPart (tVar 10))) (tTupU (tCons (tOp (rAddU K) (rIxU K (tVar 8) (tVar 10)) (tC (.int 1))) tNil))) (tSl (slU K) (tVar 8) (tPart (tOp (rAddU K) (tVar 10) (tC (.int 1)))) tNoPart)) (tC (.bl true)))) tNext))) (tFz (tDrop (tBM K "list" rAppend (tVar 4) (tCons (tVar 7) tNil))))))) u) (slW R ps (.dat (.mref la)) x5 x6 x7 x8 x9 x10 x11 x12 x13 x14 x15 x16) μ p := by
  have wk := h.k
  have w := wk.w
  have hl := w.len
  have n40 := names_len w
  refine sx_forq (ix (it_enumT (ev_v (d := .tup (R.map rowD)) rfl))) (fun xs i ρ μ => xs = enumD (R.map rowD) ∧ (∃ x5 x6 x7 x8 x9 x10, ρ = slW R ps (.dat (.mref la)) x5 x6 x7 x8 x9 x10 x11 x12 x13 x14 x15 x16) ∧ μ la = some (.lst (layL R ps (i + 1)))) (fun xs μ' ⟨e, em⟩ => ⟨e, ⟨_, _, _, _, _, _, rfl⟩, by rw [em]; exact hm⟩) (fun xs i y ρ1 μ1 hx iv => ?_) fun xs ρ' μ1 iv => ?_
  · obtain ⟨exs, ⟨x5, x6, x7, x8, x9, x10, rfl⟩, m1⟩ := iv
    rw [exs] at hx
    obtain ⟨x0, hx0, rfl⟩ := enumD_inv hx
    obtain ⟨r, hr, rfl⟩ := get_row hx0
    have hi : i < R.length := (List.getElem?_eq_some_iff.mp hr).1
    have wr := w.rows r (List.mem_of_getElem? hr)
    have ec : canAt R i = canQ r := by unfold canAt; rw [hr]
    have cn : ∀ s ∈ canQ r, s ∈ namesQ R := fun s hs => can_names (a := i) (by rw [ec]; exact hs)
    have cl : (canQ r).length ≤ (namesQ R).length := by rw [← ec]; exact can_len_names w i
    refine ⟨slW R ps (.dat (.mref la)) (.dat (.int (i : Nat))) (.dat (rowD r)) x7 x8 x9 x10 x11 x12 x13 x14 x15 x16, tgx_tup2, ?_⟩
    refine dkT.xnew fun lt hlt => ?_
    have nla : la ≠ lt := fun z => by rw [← z, m1] at hlt; cases hlt
    have m2 : (μ1.put lt (dkT.mo [])) la = some (.lst (layL R ps (i + 1))) := by rw [Mu.put_ne nla]; exact m1
    refine sx_forq (xitkT (xixL (ev_v rfl) m2 (ev_neg ev_int) (at_lastG _ i))) (fun ys m ρ μ => ys = (layKV R ps i).map (fun q => D.tk q.1) ∧ (∃ x8 x9 x10, ρ = slW R ps (.dat (.mref la)) (.dat (.int (i : Nat))) (.dat (rowD r)) (.dat (.mref lt)) x8 x9 x10 x11 x12 x13 x14 x15 x16) ∧ μ la = some (.lst (layL R ps (i + 1))) ∧ μ lt = some (.dt (((((lay R ps i).take m).flatMap fun c => bumps R ps i c (canQ r)).foldl ins []).map kvT))) (fun ys μ' ⟨e, em⟩ => ⟨e, ⟨_, _, _, rfl⟩, by rw [em]; exact m2, by rw [em]; exact Mu.put_same _ _ _⟩) (fun ys m y ρ1 μ3 hy iv => ?_) fun ys ρ' μ3 iv => ?_
    · obtain ⟨eys, ⟨x8, x9, x10, rfl⟩, m3, m4⟩ := iv
      rw [eys] at hy
      unfold layKV at hy
      rw [List.map_map, List.getElem?_map] at hy
      cases hc : (lay R ps i)[m]? with
      | none => rw [hc] at hy; cases hy
      | some c =>
        rw [hc] at hy
        have hy : D.tk (keyC c) = y := Option.some.inj hy
        subst hy
        have hcm := List.mem_of_getElem? hc
        obtain ⟨cl1, _⟩ := lay_ok hcm
        refine ⟨_, tgx_name, ?_⟩
        have hml : m < (lay R ps i).length := (List.getElem?_eq_some_iff.mp hc).1
        have accl : ((((lay R ps i).take m).flatMap fun c => bumps R ps i c (canQ r)).foldl ins []).length + (canQ r).length ≤ 5000000 := by
          have a1 := insA_len (((lay R ps i).take m).flatMap fun c => bumps R ps i c (canQ r)) (acc := [])
          have a2 := flatMap_len (fun c => bumps R ps i c (canQ r)) (namesQ R).length ((lay R ps i).take m) fun c _ => Nat.le_trans bumps_len cl
          rw [List.length_take, Nat.min_eq_left (by omega)] at a2
          have a3 := lay_len w ps i
          have a4 : (m + 1) * (namesQ R).length ≤ (namesQ R).length ^ i * (namesQ R).length := Nat.mul_le_mul_right _ (by omega)
          rw [← Nat.pow_succ, Nat.succ_eq_add_one] at a4
          have a5 : (namesQ R).length ^ (i + 1) ≤ (namesQ R).length ^ R.length := Nat.pow_le_pow_right (names_pos wk) (by omega)
          have a6 := h.few
          rw [Nat.succ_mul] at a4
          simp only [List.length_nil, Nat.zero_add] at a1
          omega
        rw [flat_take hc, List.foldl_append]
        generalize ((((lay R ps i).take m).flatMap fun c => bumps R ps i c (canQ r)).foldl ins []) = acc at m4 accl ⊢
        refine sx_for (ix (is_lst (ev_canQ rfl (ev_v rfl) wr.len))) (fun zs j ρ μ => zs = (canQ r).map D.str ∧ (∃ x9 x10, ρ = slW R ps (.dat (.mref la)) (.dat (.int (i : Nat))) (.dat (rowD r)) (.dat (.mref lt)) (.dat (.tk (keyC c))) x9 x10 x11 x12 x13 x14 x15 x16) ∧ μ la = some (.lst (layL R ps (i + 1))) ∧ μ lt = some (.dt (((bumps R ps i c ((canQ r).take j)).foldl ins acc).map kvT))) (fun zs μ' ⟨e, em⟩ => ⟨e, ⟨_, _, rfl⟩, by rw [em]; exact m3, by rw [em]; exact m4⟩) (fun zs j z ρ1 μ5 hz jv => ?_) fun zs ρ' μ5 jv => ?_
        · obtain ⟨ezs, ⟨x9, x10, rfl⟩, m5, m6⟩ := jv
          rw [ezs, List.getElem?_map] at hz
          cases hg : (canQ r)[j]? with
          | none => rw [hg] at hz; cases hz
          | some s =>
            rw [hg] at hz
            have hz : D.str s = z := Option.some.inj hz
            subst hz
            have hsn := cn s (List.mem_of_getElem? hg)
            have hjl : j < (canQ r).length := (List.getElem?_eq_some_iff.mp hg).1
            refine ⟨_, tgx_name, ?_⟩
            rw [bumps_take hg, List.foldl_append]
            refine sx_ifD (b := allowB R ps i s) (tx (ev_allow (R := R) (y := .non) rfl rfl rfl)) (fun ha => ?_) fun ha => ?_
            · rw [if_pos ha]
              refine sx_letD (d := .int ((idxS R s : Nat) : Int)) (eu_index (ev_v rfl) (ev_v rfl) (idx_get hsn) (names_nodup R)) ?_
              refine dkT.xputD (k := keyC (bumpI c (idxS R s))) (d := .bl true) ev_bl (ev_v rfl) (ev_bump rfl rfl (by rw [cl1]; exact idx_lt hsn) (by omega)) m6 ?_ ⟨ezs, ⟨_, _, rfl⟩, by rw [Mu.put_ne nla]; exact m5, ?_⟩
              · rw [List.length_map]
                have b1 := insA_len (bumps R ps i c ((canQ r).take j)) (acc := acc)
                have b2 := bumps_len (R := R) (ps := ps) (k := i) (c := c) (cs := (canQ r).take j)
                rw [List.length_take] at b2
                omega
              · rw [Mu.put_same]
                show some (MO.dt (putD _ _ _)) = _
                rw [put_ins]
                rfl
            · rw [if_neg (by rw [ha]; decide)]
              exact sx_next ⟨ezs, ⟨_, _, rfl⟩, m5, m6⟩
        · obtain ⟨ezs, ⟨x9, x10, rfl⟩, m5, m6⟩ := jv
          rw [ezs, List.length_map, List.take_length] at m6
          exact ⟨eys, ⟨_, _, _, rfl⟩, m5, m6⟩
    · obtain ⟨eys, ⟨x8, x9, x10, rfl⟩, m3, m4⟩ := iv
      have el : ys.length = (lay R ps i).length := by rw [eys]; unfold layKV; rw [List.length_map, List.length_map]
      rw [el, List.take_length] at m4
      have e1 : ((lay R ps i).flatMap fun c => bumps R ps i c (canQ r)).foldl ins [] = lay R ps (i + 1) := by
        show _ = ((lay R ps i).flatMap fun c => bumps R ps i c (canAt R i)).foldl ins []
        rw [ec]
      rw [e1] at m4
      refine dkT.xfz (i := 7) (a := lt) rfl m4 id ?_
      refine sx_appD (a := la) (xs := layL R ps (i + 1)) (d := .ft (layKV R ps (i + 1))) (ev_v rfl) (by rw [show μ3.del lt la = μ3 la from if_neg nla]; exact m3) (ev_v rfl) (by unfold layL; rw [List.length_map, List.length_range]; omega) ⟨exs, ⟨_, _, _, _, _, _, rfl⟩, ?_⟩
      rw [Mu.put_same]
      unfold layL
      rw [List.range_succ (n := i + 1), List.map_append]
      rfl
  · obtain ⟨exs, ⟨x5, x6, x7, x8, x9, x10, rfl⟩, m1⟩ := iv
    rw [exs, enumD_len, List.length_map] at m1
    exact k _ _ _ _ _ _ μ1 m1
end
end RF

set_option Elab.async false
set_option linter.all false
set_option maxRecDepth 100000
set_option maxHeartbeats 4000000
set_option autoImplicit false
set_option exponentiation.threshold 6000
namespace RF
open PySem L2
section
variable {K : PySem.W.Frag} {lk : Bool} {w0 w w' w1 : Wd} {μ μ' : Mu} {L L' : Addr → Prop} {σ σ' : St} {ρ ρ' : List Sl} {te ta tb : TE} {tt tu : TT} {t u : TS} {p : PoX} {P : D → Prop} {X Y : D → Mu → Prop} {d : D} {g : TG} {wi : TI}
/-- [(counts, v) for counts in a layer] -/
theorem ev_pairsOf {R : Rounds} {ps : List Str} {k : Nat} (hi : EvD K lk ta ρ (.ft (layKV R ps k))) (hl : (lay R ps k).length ≤ 5000000) (h8 : 8 < ρ.length) (v : List Int → D) (turn : ∀ c ∈ lay R ps k, EvD K lk te ((wipeS ρ [8]).set 8 (.dat (.tk (keyC c)))) (v c)) :
    EvD K lk (tLc (iKeys ta) (gName 8) tYes (tTupU (tCons (tVar 8) (tCons te tNil))) [8]) ρ (.lst (((lay R ps k).map fun c => (keyC c, v c)).map fun p => .tup [.tk p.1, p.2])) := by
  have ek : (layKV R ps k).map (fun q => dkT.kd q.1) = (lay R ps k).map fun c => D.tk (keyC c) := by unfold layKV; rw [List.map_map]; rfl
  refine ev_lc (js := [8]) (dkT.itk hi) (fun _ i ys => ys = (((lay R ps k).take i).map fun c => (keyC c, v c)).map fun p => .tup [.tk p.1, p.2]) (fun _ _ => rfl) (fun xs e => by rw [show xs = _ from e, ek, List.length_map]; omega) (fun j hj => hj) (fun xs i x ys e hx ha => ?_) fun xs ys e ha => ?_
  · rw [show xs = _ from e, ek, List.getElem?_map] at hx
    cases hc : (lay R ps k)[i]? with
    | none => rw [hc] at hx; cases hx
    | some c =>
      rw [hc] at hx
      have hx : D.tk (keyC c) = x := Option.some.inj hx
      subst hx
      refine ⟨_, _, tg_name, et_yes, (fun z => Bool.noConfusion z), fun _ => (eu_tup (ds := [.tk (keyC c), v c]) (ea_cons (ev_v ?_) (ea_cons (turn c (List.mem_of_getElem? hc)) ea_nil))).imp fun d ed => ?_⟩
      · show ((ρ.set 8 .un).set 8 _)[8]? = _
        rw [List.getElem?_set_self (by rw [List.length_set]; exact h8)]
      · rw [ha, ed, take_succ_of hc, List.map_append, List.map_append]
        rfl
  · rw [show xs = _ from e, ek, List.length_map, List.take_length] at ha
    rw [ha]
/-- what stands in nearest -/
structure Cur (R : Rounds) (b : Addr) (ad : Nat → Addr) (cur : Nat → List (List Key × D)) (μ : Mu) : Prop where
  list : μ b = some (.lst ((List.range (R.length + 1)).map fun j => if j = R.length then .dt (cur R.length) else .mref (ad j)))
  dict : ∀ j, j < R.length → μ (ad j) = some (.dt (cur j))
theorem der0d (μ : Mu) (d : D) : der μ 0 d = d := by unfold der; rfl
theorem derT {a : Addr} {kvs : List (List Key × D)} (h : μ a = some (.dt kvs)) (n : Nat) : der μ (n + 1) (.mref a) = .dt (kvs.map fun p => (p.1, der μ n p.2)) := by simp only [der, h]
theorem Cur.view {R : Rounds} {b : Addr} {ad : Nat → Addr} {cur : Nat → List (List Key × D)} (h : Cur R b ad cur μ) : der μ 2 (.mref b) = .lst ((List.range (R.length + 1)).map fun j => .dt (cur j)) := by
  have e : der μ 2 (.mref b) = .lst ((((List.range (R.length + 1)).map fun j => if j = R.length then D.dt (cur R.length) else D.mref (ad j))).map (der μ 1)) := by simp only [der, h.list]
  rw [e, List.map_map]
  congr 1
  refine List.map_congr_left fun j hj => ?_
  have hj := List.mem_range.mp hj
  show der μ 1 (if j = R.length then D.dt (cur R.length) else D.mref (ad j)) = _
  by_cases z : j = R.length
  · rw [if_pos z, z]; rfl
  · rw [if_neg z, derT (h.dict j (by omega))]
    congr 1
    have : (fun p : List Key × D => (p.1, der μ 0 p.2)) = id := funext fun p => by rw [der0d]; rfl
    rw [this, List.map_id]
theorem Cur.at {R : Rounds} {b : Addr} {ad : Nat → Addr} {cur : Nat → List (List Key × D)} (h : Cur R b ad cur μ) {i : Nat} (hi : ρ[i]? = some (.dat (.mref b))) : (ρ.map (derS μ 2))[i]? = some (.dat (.lst ((List.range (R.length + 1)).map fun j => .dt (cur j)))) := by
  rw [List.getElem?_map, hi]
  show some (Sl.dat (der μ 2 (.mref b))) = _
  rw [h.view]
theorem Cur.put {R : Rounds} {b : Addr} {ad : Nat → Addr} {cur : Nat → List (List Key × D)} (h : Cur R b ad cur μ) (hb : ∀ j, j < R.length → ad j ≠ b) (inj : ∀ i j, i < R.length → j < R.length → ad i = ad j → i = j) {k : Nat} (hk : k < R.length) (kvs : List (List Key × D)) : Cur R b ad (fun j => if j = k then kvs else cur j) (μ.put (ad k) (.dt kvs)) := by
  refine ⟨?_, fun j hj => ?_⟩
  · rw [Mu.put_ne (fun z => hb k hk z.symm), h.list, if_neg (by omega)]
  · by_cases z : j = k
    · subst z; rw [Mu.put_same, if_pos rfl]
    · rw [Mu.put_ne (fun e => z (inj j k hj hk e)), if_neg z]; exact h.dict j hj
theorem Cur.same {R : Rounds} {b : Addr} {ad : Nat → Addr} {cur cur' : Nat → List (List Key × D)} (h : Cur R b ad cur μ) (e : ∀ j, j ≤ R.length → cur j = cur' j) : Cur R b ad cur' μ := ⟨by rw [h.list, e _ (Nat.le_refl _)], fun j hj => by rw [h.dict j hj, e j (by omega)]⟩
/-- gaps of a layer -/
def gapKV (R : Rounds) (ps : List Str) (k : Nat) : List (List Key × D) := (lay R ps (k + 1)).map fun c => (keyC c, fD (gapC R k c))
theorem gapKV_nd (R : Rounds) (ps : List Str) (k : Nat) : ((gapKV R ps k).map (·.1)).Nodup := by
  unfold gapKV
  rw [List.map_map]
  exact map_nodup (fun _ _ e => keyC_inj e) (lay_nodup R ps (k + 1))
theorem gapKV_get {R : Rounds} {ps : List Str} {k : Nat} {c : List Int} (h : c ∈ lay R ps (k + 1)) : getD' (gapKV R ps k) (keyC c) = some (fD (gapC R k c)) := getD'_of_mem (gapKV_nd R ps k) (List.mem_map.mpr ⟨c, h, rfl⟩)
theorem opt_put {dn : List (List Key × D)} {c : List Int} {o : Option Rat} (hd : keyC c ∉ dn.map (·.1)) (v : Rat) : putD (dn ++ optKV c o) (keyC c) (fD v) = dn ++ [(keyC c, fD v)] := by
  cases o with
  | none =>
    show putD (dn ++ []) _ _ = _
    rw [List.append_nil, putD_new hd]
  | some u =>
    show putD (dn ++ [(keyC c, fD u)]) _ _ = _
    unfold putD
    rw [if_pos (List.any_eq_true.mpr ⟨(keyC c, fD u), by simp, by simp⟩), List.map_append]
    have : dn.map (fun kv => if kv.1 = keyC c then (kv.1, fD v) else kv) = dn := by
      conv => rhs; rw [← List.map_id dn]
      refine List.map_congr_left fun x hx => ?_
      show (if x.1 = keyC c then _ else _) = id x
      rw [if_neg fun z => hd (List.mem_map.mpr ⟨x, hx, z⟩)]
      rfl
    rw [this]
    simp
theorem opt_get {dn : List (List Key × D)} {c : List Int} {o : Option Rat} (hd : keyC c ∉ dn.map (·.1)) : getD' (dn ++ optKV c o) (keyC c) = o.map fD := by
  have key : ∀ xs : List (List Key × D), keyC c ∉ xs.map (·.1) → ∀ ys, getD' (xs ++ ys) (keyC c) = getD' ys (keyC c) := fun xs => by
    induction xs with
    | nil => exact fun _ ys => rfl
    | cons x xs ih =>
      intro h ys
      rw [List.cons_append, getD'_cons, if_neg fun z => h (by rw [← z]; simp)]
      exact ih (fun z => h (by simp only [List.map_cons]; exact List.mem_cons_of_mem _ z)) ys
  rw [key dn hd]
  cases o with
  | none => rfl
  | some u =>
    show getD' [(keyC c, fD u)] (keyC c) = _
    rw [getD'_cons, if_pos rfl]
    rfl
end
end RF

set_option Elab.async false
set_option linter.all false
set_option maxRecDepth 100000
set_option maxHeartbeats 4000000
set_option autoImplicit false
set_option exponentiation.threshold 6000
namespace RF
open PySem L2
section
variable {K : PySem.W.Frag} {lk : Bool}
/-- when the places from j on are done -/
def curN (R : Rounds) (ps : List Str) (j k : Nat) : List (List Key × D) := if j ≤ k then nearKV R ps k else []
theorem ads_list (as : List Addr) {n : Nat} (h : as.length = n) : as = (List.range n).map fun j => as.getD j 0 := by
  refine List.ext_getElem? fun i => ?_
  rw [List.getElem?_map]
  by_cases hi : i < n
  · rw [List.getElem?_range hi, List.getElem?_eq_getElem (by omega)]
    show _ = some (as.getD i 0)
    rw [List.getD_eq_getElem?_getD, List.getElem?_eq_getElem (by omega)]
    rfl
  · rw [List.getElem?_eq_none (by omega), List.getElem?_eq_none (by rw [List.length_range]; omega)]
    rfl
theorem st_law_ways (lk : Bool) (x : RP) (h : preWy x) : StX K lk noL (t_law_ways K) (startS 17 (encRP x)) mu0 (FnX fun d _ => d = waysD x.1 x.2) := by
  obtain ⟨R, ps⟩ := x
  have h : WfW R ps := h
  have wk := h.k
  have w := wk.w
  have hp := h.p
  have hl := w.len
  have n40 := names_len w
  have n1 := names_pos wk
  refine sx_letG (exD (eu_tup (ds := [.dk (dueKV R), .lst ((namesQ R).map D.str)]) (ea_cons (ev_call R (ea_cons (ev_v rfl) ea_nil) w) (ea_cons (ev_names rfl (ev_v rfl) w.preR) ea_nil)))) fun d μ' ⟨e, em⟩ => ?_
  subst e em
  refine ⟨slW R ps .un .un .un .un .un .un .un .un .un .un .un .un .un, tgx_tup2, ?_⟩
  refine sx_let (X := fun d μ => ∃ la, d = .mref la ∧ μ = mu0.put la (.lst (layL R ps 1))) (xlst (C := fun as μ => as = dats [.ft (layKV R ps 0)] ∧ μ = mu0) (ax_consD (d := .ft (layKV R ps 0)) (ev_is (eu_disp1 (ks := List.replicate (namesQ R).length (gkI 0)) (d := .bl true) (eu_repK (eu_tupK [gkI 0] (ea_cons ev_int ea_nil) (by show 1 ≤ 1000; decide)) (ev_is (eu_lenL (ev_v rfl)) (by rw [List.length_map])) n1 (by omega)) ev_bl) ?_) (ax_nil' ⟨rfl, rfl⟩)) fun as μ ⟨e, em⟩ => ⟨_, e, by show 1 ≤ 1000; decide, fun b _ => ⟨b, rfl, by rw [em]; rfl⟩⟩) fun d μ ⟨la, e, em⟩ => ?_
  · unfold layKV
    show D.ft _ = D.ft [kvT _]
    unfold kvT keyC
    rw [List.map_replicate]
  subst e em
  refine st_ways1 (R := R) (ps := ps) (la := la) lk h (Mu.put_same _ _ _) fun x5 x6 x7 x8 x9 x10 μ1 m1 => ?_
  refine sx_freeze (i := 4) (a := la) rfl m1 id ?_
  have hT : 0 < R.length := List.length_pos_iff.mpr wk.ne
  have ll : (layL R ps (R.length + 1)).length = R.length + 1 := by unfold layL; rw [List.length_map, List.length_range]
  refine sx_let (dkT.xlcD (js := [12]) (is_lst (ev_v (d := .lst (layL R ps (R.length + 1))) rfl)) (by omega) (by decide) fun i x hx => ⟨_, tg_name⟩) fun d μ2 ⟨b, as, hal, hnd, hba, hb0, has, e1, e2⟩ => ?_
  subst e1
  rw [ll] at hal
  have eas := ads_list as hal
  generalize had : (fun j => as.getD j 0) = ad at eas
  have adm : ∀ j, j ≤ R.length → ad j ∈ as := fun j hj => by rw [eas]; exact List.mem_map.mpr ⟨j, List.mem_range.mpr (by omega), rfl⟩
  have adb : ∀ j, j < R.length → ad j ≠ b := fun j hj z => hba (by rw [← z]; exact adm j (by omega))
  have adinj : ∀ i j, i < R.length → j < R.length → ad i = ad j → i = j := fun i j hi hj e => by
    apply Classical.byContradiction
    intro z
    have pw := List.nodup_iff_pairwise_ne.mp hnd
    rw [eas, List.pairwise_map] at pw
    rcases Nat.lt_or_gt_of_ne z with q | q
    · have := List.pairwise_iff_getElem.mp pw i j (by rw [List.length_range]; omega) (by rw [List.length_range]; omega) q
      simp at this
      exact this e
    · have := List.pairwise_iff_getElem.mp pw j i (by rw [List.length_range]; omega) (by rw [List.length_range]; omega) q
      simp at this
      exact this e.symm
  have m2 : ∀ j, j ≤ R.length → μ2 (ad j) = some (.dt []) := fun j hj => by
    rw [e2, Mu.put_ne (fun z => hba (by rw [← z]; exact adm j hj))]
    exact if_pos (adm j hj)
  have mb : μ2 b = some (.lst (as.map D.mref)) := by rw [e2]; exact Mu.put_same _ _ _
  have aml : (as.map D.mref).length = R.length + 1 := by rw [List.length_map, hal]
  have nT : nearKV R ps R.length = (lay R ps R.length).map fun c => (keyC c, fD 0) := by
    unfold nearKV
    rw [Nat.sub_self]
    have : nearP R ps 0 = some ∘ fun c => (keyC c, fD 0) := funext fun c => rfl
    rw [this, List.filterMap_eq_map]
  have layAt : ∀ {ρ : List Sl} {ti : TE} {k : Nat}, ρ[4]? = some (.dat (.lst (layL R ps (R.length + 1)))) → EvD K lk ti ρ (.int (k : Int)) → k ≤ R.length → EvD K lk (rIxU K (tVar 4) ti) ρ (.ft (layKV R ps k)) := fun {ρ ti k} h4 hi hk => eu_ixL (ev_v h4) hi (at_G _ (by omega))
  refine sx_seq (fun ρ μ => ρ = slW R ps (.dat (.lst (layL R ps (R.length + 1)))) x5 x6 x7 x8 x9 x10 (.dat (.mref b)) .un .un .un .un .un ∧ Cur R b ad (curN R ps R.length) μ) (xputL (X := fun d μ => d = .dt (nearKV R ps R.length) ∧ μ = μ2) (a := b) (j := R.length) (exD (ev_is (eu_dictT (kvs := (lay R ps R.length).map fun c => (keyC c, fD 0)) (ev_pairsOf (R := R) (ps := ps) (k := R.length) (eu_ixL (ev_v (d := .lst (layL R ps (R.length + 1))) rfl) (ev_neg ev_int) (at_lastG _ _)) (h.lay (Nat.le_refl _)) (by show 8 < 17; decide) (fun _ => fD 0) fun c _ => eu_tup (ds := [.int 0, .int 1]) (ea_cons ev_int (ea_cons ev_int ea_nil))) (by rw [List.map_map]; exact map_nodup (fun _ _ e => keyC_inj e) (lay_nodup R ps _))) (by rw [nT]))) (ev_v rfl) (ev_neg ev_int) fun d μ3 ⟨e, em⟩ => ⟨as.map D.mref, by rw [em]; exact mb, by rw [aml]; exact ixN_last _, rfl, ?_⟩) ?_
  · subst e em
    refine ⟨?_, fun j hj => ?_⟩
    · rw [Mu.put_same]
      congr 2
      refine List.ext_getElem? fun i => ?_
      rw [List.getElem?_map]
      by_cases hi : i < R.length + 1
      · rw [List.getElem?_range hi]
        show _ = some (if i = R.length then D.dt (curN R ps R.length R.length) else D.mref (ad i))
        by_cases z : i = R.length
        · rw [if_pos z, z, List.getElem?_set_self (by omega)]
          unfold curN
          rw [if_pos (Nat.le_refl _)]
        · rw [if_neg z, List.getElem?_set_ne (fun q => z q.symm)]
          have : (as.map D.mref)[i]? = some (D.mref (ad i)) := by
            rw [eas, List.map_map, List.getElem?_map, List.getElem?_range hi]
            rfl
          exact this
      · rw [List.getElem?_eq_none (by rw [List.length_set]; omega), List.getElem?_eq_none (by rw [List.length_range]; omega)]
        rfl
    · rw [Mu.put_ne (adb j hj), m2 j (by omega)]
      unfold curN
      rw [if_neg (by omega)]
  rintro ρ μ3 ⟨rfl, cu⟩
  have rng : ItS K lk (iRng3 (tCons (tOp rSubI (tCB (rLenU K) (tCons (tVar 0) tNil)) (tC (.int 1))) (tCons (tUn (rU fun i => .int (-i)) (tC (.int 1))) (tCons (tUn (rU fun i => .int (-i)) (tC (.int 1))) tNil)))) (slW R ps (.dat (.lst (layL R ps (R.length + 1)))) x5 x6 x7 x8 x9 x10 (.dat (.mref b)) .un .un .un .un .un) (fun ys => ys = downD ((R.length : Int) - 1) R.length) := by
    have z := it_down (K := K) (lk := lk) (ρ := slW R ps (.dat (.lst (layL R ps (R.length + 1)))) x5 x6 x7 x8 x9 x10 (.dat (.mref b)) .un .un .un .un .un) (i := (R.length : Int) - 1) (j := -1) (ea_cons (ev_sub (ev_lenR (R := R) (ev_v (i := 0) rfl)) ev_int) (ea_cons (ev_neg (i := 1) ev_int) (ea_cons (ev_neg (i := 1) ev_int) ea_nil))) (by omega) (by omega)
    rw [show ((R.length : Int) - 1 - -1).toNat = R.length by omega] at z
    exact z
  refine sx_forq (ix rng) (fun xs m ρ μ => xs = downD ((R.length : Int) - 1) R.length ∧ m ≤ R.length ∧ (∃ x5 x6 x7 x8 x9 x10 x12 x13 x14 x15 x16, ρ = slW R ps (.dat (.lst (layL R ps (R.length + 1)))) x5 x6 x7 x8 x9 x10 (.dat (.mref b)) x12 x13 x14 x15 x16) ∧ Cur R b ad (curN R ps (R.length - m)) μ) (fun xs μ' ⟨e, em⟩ => ⟨e, Nat.zero_le _, ⟨_, _, _, _, _, _, _, _, _, _, _, rfl⟩, by rw [em]; exact cu⟩) (fun xs m y ρ1 μ4 hx iv => ?_) fun xs ρ' μ4 iv => ?_
  · obtain ⟨exs, hmle, ⟨x5, x6, x7, x8, x9, x10, x12, x13, x14, x15, x16, rfl⟩, cu⟩ := iv
    rw [exs] at hx
    unfold downD at hx
    rw [List.getElem?_map] at hx
    have hm : m < R.length := by
      apply Classical.byContradiction
      intro z
      rw [List.getElem?_eq_none (by rw [List.length_range]; omega)] at hx
      cases hx
    rw [List.getElem?_range hm] at hx
    have hx : D.int ((R.length : Int) - 1 - (m : Nat)) = y := Option.some.inj hx
    obtain ⟨k, hk⟩ : ∃ k, k = R.length - (m + 1) := ⟨_, rfl⟩
    have ek1 : R.length - m = k + 1 := by omega
    have hkl : k < R.length := by omega
    have ey : y = .int (k : Int) := by rw [← hx]; congr 1; omega
    subst ey
    rw [ek1] at cu
    have hr : R[k]? = some R[k] := List.getElem?_eq_getElem hkl
    generalize hrr : R[k] = r at hr
    have wr := w.rows r (List.mem_of_getElem? hr)
    have ec : canAt R k = canQ r := by unfold canAt; rw [hr]
    have cn : ∀ s ∈ canQ r, s ∈ namesQ R := fun s hs => can_names (a := k) (by rw [ec]; exact hs)
    refine ⟨slW R ps (.dat (.lst (layL R ps (R.length + 1)))) (.dat (.int (k : Int))) x6 x7 x8 x9 x10 (.dat (.mref b)) x12 x13 x14 x15 x16, tgx_name, ?_⟩
    refine sx_letD (d := .dt (gapKV R ps k)) (eu_dictT (kvs := gapKV R ps k) (ev_pairsOf (R := R) (ps := ps) (k := k + 1) (layAt rfl (ev_is (eu_add (ev_v rfl) ev_int) (by simp)) (by omega)) (h.lay (by omega)) (by show 8 < 17; decide) (fun c => fD (gapC R k c)) fun c hc => ev_callO (fun vs H Q E (z : sp_law_gapT K vs H Q E) => Or.inr z) ((R, k, c) : GapA) (ea_cons (ev_v rfl) (ea_cons (ev_v rfl) (ea_cons (ev_v rfl) ea_nil))) ⟨w, hkl, lay_abs w (by omega) hc⟩) (gapKV_nd R ps k)) ?_
    have kn : (nearKV R ps (k + 1)) = curN R ps (k + 1) (k + 1) := by unfold curN; rw [if_pos (Nat.le_refl _)]
    have ek : (layKV R ps k).map (fun q => dkT.kd q.1) = (lay R ps k).map fun c => D.tk (keyC c) := by unfold layKV; rw [List.map_map]; rfl
    refine sx_for (ix (dkT.itk (layAt (k := k) rfl (ev_v rfl) (by omega)))) (fun ys i ρ μ => ys = (lay R ps k).map (fun c => D.tk (keyC c)) ∧ (∃ x8 x9 x10 x14 x15 x16, ρ = slW R ps (.dat (.lst (layL R ps (R.length + 1)))) (.dat (.int (k : Int))) x6 x7 x8 x9 x10 (.dat (.mref b)) x12 (.dat (.dt (gapKV R ps k))) x14 x15 x16) ∧ Cur R b ad (fun j => if j = k then ((lay R ps k).take i).filterMap (nearP R ps (R.length - k)) else curN R ps (k + 1) j) μ) (fun ys μ' ⟨e, em⟩ => ⟨by rw [show ys = _ from e, ek], ⟨_, _, _, _, _, _, rfl⟩, by
        rw [em]
        refine cu.same fun j hj => ?_
        by_cases z : j = k
        · rw [if_pos z]
          unfold curN
          rw [if_neg (by omega)]
          rfl
        · rw [if_neg z]⟩) (fun ys i y ρ1 μ5 hy iv => ?_) fun ys ρ' μ5 iv => ?_
    · obtain ⟨eys, ⟨x8, x9, x10, x14, x15, x16, rfl⟩, cu⟩ := iv
      rw [eys, List.getElem?_map] at hy
      cases hc : (lay R ps k)[i]? with
      | none => rw [hc] at hy; cases hy
      | some c =>
        rw [hc] at hy
        have hy : D.tk (keyC c) = y := Option.some.inj hy
        subst hy
        have hcm := List.mem_of_getElem? hc
        obtain ⟨cl1, _⟩ := lay_ok hcm
        have hcn : c ∉ (lay R ps k).take i := not_mem_take (lay_nodup R ps k) hc
        generalize hdn : ((lay R ps k).take i).filterMap (nearP R ps (R.length - k)) = dn at cu
        have dnn : keyC c ∉ dn.map (·.1) := by
          rw [← hdn, ← getD'_none_iff]
          exact near_not hcn
        have dnl : dn.length ≤ 5000000 := by
          rw [← hdn]
          refine Nat.le_trans (List.length_filterMap_le _ _) (Nat.le_trans ?_ (h.lay (k := k) (by omega)))
          rw [List.length_take]
          omega
        refine ⟨_, tgx_name, ?_⟩
        refine sx_for (ix (is_lst (ev_canQ rfl (eu_ixT (ev_v rfl) (ev_v rfl) (at_row hr)) wr.len))) (fun zs j ρ μ => zs = (canQ r).map D.str ∧ (∃ x9 x10 x14 x15 x16, ρ = slW R ps (.dat (.lst (layL R ps (R.length + 1)))) (.dat (.int (k : Int))) x6 x7 (.dat (.tk (keyC c))) x9 x10 (.dat (.mref b)) x12 (.dat (.dt (gapKV R ps k))) x14 x15 x16) ∧ Cur R b ad (fun j' => if j' = k then dn ++ optKV c (runO R ps k c ((canQ r).take j)) else curN R ps (k + 1) j') μ) (fun zs μ' ⟨e, em⟩ => ⟨e, ⟨_, _, _, _, _, rfl⟩, by
            rw [em]
            refine cu.same fun j hj => ?_
            by_cases z : j = k
            · rw [if_pos z, if_pos z]
              show dn = dn ++ []
              rw [List.append_nil]
            · rw [if_neg z, if_neg z]⟩) (fun zs j z ρ1 μ6 hz jv => ?_) fun zs ρ' μ6 jv => ?_
        · obtain ⟨ezs, ⟨x9, x10, x14, x15, x16, rfl⟩, cu⟩ := jv
          rw [ezs, List.getElem?_map] at hz
          cases hg : (canQ r)[j]? with
          | none => rw [hg] at hz; cases hz
          | some s =>
            rw [hg] at hz
            have hz : D.str s = z := Option.some.inj hz
            subst hz
            have hsc : s ∈ canAt R k := by rw [ec]; exact List.mem_of_getElem? hg
            have hsn := can_names hsc
            refine ⟨_, tgx_name, ?_⟩
            refine sx_letD (d := .int ((idxS R s : Nat) : Int)) (eu_index (ev_v rfl) (ev_v rfl) (idx_get hsn) (names_nodup R)) ?_
            refine sx_letD (d := .tk (keyC (bumpI c (idxS R s)))) (ev_bump rfl rfl (by rw [cl1]; exact idx_lt hsn) (by omega)) ?_
            have step : runO R ps k c ((canQ r).take (j + 1)) = nearS R ps k (nearF R ps (R.length - (k + 1))) c (runO R ps k c ((canQ r).take j)) s := by
              unfold runO
              rw [take_succ_of hg, List.foldl_append]
              rfl
            rw [step]
            generalize hro : runO R ps k c ((canQ r).take j) = ro at cu
            generalize hbb : bumpI c (idxS R s) = bb
            have hiff : bb ∈ lay R ps (k + 1) ↔ allowB R ps k s = true := by rw [← hbb]; exact lay_allow hp hcm hsc
            have nextAt : ∀ {ρ : List Sl}, ρ[11]? = some (.dat (.lst ((List.range (R.length + 1)).map fun j' => .dt (if j' = k then dn ++ optKV c ro else curN R ps (k + 1) j')))) → ρ[5]? = some (.dat (.int (k : Int))) → EvD K lk (rIxU K (tVar 11) (tOp (rAddU K) (tVar 5) (tC (.int 1)))) ρ (.dt (nearKV R ps (k + 1))) := fun {ρ} h11 h5 => by
              refine ev_is (eu_ixL (ev_v h11) (ev_is (eu_add (ev_v h5) ev_int) (y := .int ((k + 1 : Nat) : Int)) (by simp)) (at_G _ (by omega))) ?_
              rw [if_neg (by omega), ← kn]
            have hereAt : ∀ {ρ : List Sl}, ρ[11]? = some (.dat (.lst ((List.range (R.length + 1)).map fun j' => .dt (if j' = k then dn ++ optKV c ro else curN R ps (k + 1) j')))) → ρ[5]? = some (.dat (.int (k : Int))) → EvD K lk (rIxU K (tVar 11) (tVar 5)) ρ (.dt (dn ++ optKV c ro)) := fun {ρ} h11 h5 => by
              refine ev_is (eu_ixL (ev_v h11) (ev_v h5) (at_G _ (by omega))) ?_
              rw [if_pos rfl]
            refine sx_ifD (b := allowB R ps k s) (txv 2 (eb_is (dkT.ein (k := keyC bb) (kvs := nearKV R ps (k + 1)) (ev_v rfl) (nextAt (cu.at rfl) rfl)) ?_)) (fun ha => ?_) fun ha => ?_
            · by_cases ha : allowB R ps k s = true
              · obtain ⟨v, hv, _⟩ := near_spec w hp (R.length - (k + 1)) bb (by omega)
                unfold nearKV
                rw [near_get (lay_nodup R ps (k + 1)) (hiff.mpr ha) hv, ha]
                rfl
              · unfold nearKV
                rw [near_not (fun z => ha (hiff.mp z))]
                simp at ha
                rw [ha]
                rfl
            · have hbm := hiff.mpr ha
              obtain ⟨v, hv, _⟩ := near_spec w hp (R.length - (k + 1)) bb (by omega)
              have sg : Bq (2 ^ 900) (gapC R k bb) := gapC_bq w k (lay_abs w (by omega) hbm)
              have sv : Bq (2 ^ 900) v := near_bq w (R.length - (k + 1)) bb v (by omega) (by rw [show R.length - (R.length - (k + 1)) = k + 1 by omega]; exact hbm) hv
              have sm := sg.max sv
              have enext : nearS R ps k (nearF R ps (R.length - (k + 1))) c ro s = minO ro (maxQ (gapC R k bb) v) := by
                unfold nearS
                rw [if_pos ha, hbb, hv]
              rw [enext]
              refine sx_parq (C := fun as μ' => as = [.d (fD (gapC R k bb)), .d (fD v)] ∧ μ' = μ6) (ax_consD (d := fD (gapC R k bb)) (dkT.eget (k := keyC bb) (ev_v rfl) (ev_v rfl) (gapKV_get hbm)) (ax_consX (d := fD v) (exv 2 (dkT.eget (k := keyC bb) (kvs := nearKV R ps (k + 1)) (nextAt (cu.at rfl) rfl) (ev_v rfl) (near_get (lay_nodup R ps (k + 1)) hbm hv)) fun d e => by rw [show d = _ from e]; rfl) (ax_nil' ⟨rfl, rfl⟩))) fun as μ' ⟨e, em⟩ => ⟨_, _, e, ?_⟩
              subst em
              refine sx_letD (d := fD (maxQ (gapC R k bb) v)) (ev_maxQ rfl (ev_v rfl) (ev_v rfl) (bq_small sg) (bq_small sv)) ?_
              have fin : ∀ {x15 x16 : Sl}, Cur R b ad (fun j' => if j' = k then dn ++ optKV c (minO ro (maxQ (gapC R k bb) v)) else curN R ps (k + 1) j') (μ'.put (ad k) (.dt (putD (dn ++ optKV c ro) (keyC c) (fD (maxQ (gapC R k bb) v))))) ∨ minO ro (maxQ (gapC R k bb) v) = ro := fun {x15 x16} => by
                by_cases z : minO ro (maxQ (gapC R k bb) v) = ro
                · exact .inr z
                · left
                  have em : minO ro (maxQ (gapC R k bb) v) = some (maxQ (gapC R k bb) v) := by
                    cases ro with
                    | none => rfl
                    | some u =>
                      unfold minO at z ⊢
                      by_cases c : maxQ (gapC R k bb) v < u
                      · simp only [if_pos c]
                      · simp only [if_neg c] at z
                        exact absurd trivial z
                  rw [em, opt_put dnn]
                  refine (cu.put adb adinj hkl (dn ++ [(keyC c, fD (maxQ (gapC R k bb) v))])).same fun j' hj' => ?_
                  by_cases y : j' = k
                  · rw [if_pos y, if_pos y]; rfl
                  · rw [if_neg y, if_neg y, if_neg y]
              have mk : μ' (ad k) = some (.dt (dn ++ optKV c ro)) := by rw [cu.dict k hkl, if_pos rfl]
              have mlist := cu.list
              have ixk : EX K lk noL (rIxU K (tVar 11) (tVar 5)) (slW R ps (.dat (.lst (layL R ps (R.length + 1)))) (.dat (.int (k : Int))) x6 x7 (.dat (.tk (keyC c))) (.dat (.str s)) (.dat (.int ((idxS R s : Nat) : Int))) (.dat (.mref b)) x12 (.dat (.dt (gapKV R ps k))) (.dat (.tk (keyC bb))) (.dat (fD (maxQ (gapC R k bb) v))) (.dat (fD v))) μ' (fun x μ'' => x = .mref (ad k) ∧ μ'' = μ') := xixL (a := b) (ev_v rfl) mlist (ev_v rfl) (by rw [at_G _ (show k < R.length + 1 by omega), if_neg (by omega)])
              have optl : (dn ++ optKV c ro).length < 10000000 := by
                rw [List.length_append]
                cases ro with
                | none => show dn.length + 0 < _; omega
                | some u => show dn.length + 1 < _; omega
              refine sx_if (T := fun bo μ'' => (bo = false → minO ro (maxQ (gapC R k bb) v) = ro) ∧ (bo = true → minO ro (maxQ (gapC R k bb) v) = some (maxQ (gapC R k bb) v)) ∧ μ'' = μ') (TX.imp (txv 2 (T := fun bo => (bo = false → minO ro (maxQ (gapC R k bb) v) = ro) ∧ (bo = true → minO ro (maxQ (gapC R k bb) v) = some (maxQ (gapC R k bb) v))) ?_) fun bo μ'' ⟨⟨q1, q2⟩, q3⟩ => ⟨q1, q2, q3⟩) (fun μ'' ⟨_, q2, q3⟩ => ?_) fun μ'' ⟨q1, _, q3⟩ => ?_
              · cases ro with
                | none =>
                  refine et_or' (T := fun b => b = true) (eb_is (dkT.enotin (k := keyC c) (ev_v rfl) (hereAt (cu.at rfl) rfl)) ?_) (fun _ => ⟨fun z => Bool.noConfusion z, fun _ => rfl⟩) fun z => Bool.noConfusion z
                  rw [opt_get dnn]
                  rfl
                | some u =>
                  have hub : Small u := by
                    have : nearF R ps (R.length - k) c = runO R ps k c (canAt R k) := (run_all hkl c).symm
                    obtain ⟨_, _, n3⟩ := nearS_spec (R := R) (ps := ps) (k := k) (f := nearF R ps (R.length - (k + 1))) (c := c) ((canQ r).take j) none
                    rcases n3 u hro with z | ⟨t, ht, hta, v', hv', eu⟩
                    · cases z
                    · have htc : t ∈ canAt R k := by rw [ec]; exact List.mem_of_mem_take ht
                      have hbt : bumpI c (idxS R t) ∈ lay R ps (k + 1) := (lay_allow hp hcm htc).mpr hta
                      rw [eu]
                      exact bq_small ((gapC_bq w k (lay_abs w (by omega) hbt)).max (near_bq w (R.length - (k + 1)) _ v' (by omega) (by rw [show R.length - (R.length - (k + 1)) = k + 1 by omega]; exact hbt) hv'))
                  refine EvT.imp (A := fun bo => bo = decide (maxQ (gapC R k bb) v < u)) (eb_is (et_or (a := false) (eb_is (dkT.enotin (k := keyC c) (ev_v rfl) (hereAt (cu.at rfl) rfl)) ?_) fun _ => ev_less rfl (ev_v rfl) (dkT.eget (k := keyC c) (hereAt (cu.at rfl) rfl) (ev_v rfl) (by rw [opt_get dnn]; rfl)) (bq_small sm) hub) (Bool.false_or _)) fun bo e => ?_
                  · rw [opt_get dnn]
                    rfl
                  · unfold minO
                    by_cases c : maxQ (gapC R k bb) v < u
                    · rw [decide_eq_true c] at e
                      simp only [if_pos c]
                      exact ⟨(fun z => by rw [e] at z; cases z), fun _ => trivial⟩
                    · rw [decide_eq_false c] at e
                      simp only [if_neg c]
                      exact ⟨fun _ => trivial, (fun z => by rw [e] at z; cases z)⟩
              · subst q3
                refine dkT.xputX (d := fD (maxQ (gapC R k bb) v)) (k := keyC c) (kvs := dn ++ optKV c ro) (ev_v rfl) ixk (ev_v rfl) mk optl ⟨ezs, ⟨_, _, _, _, _, rfl⟩, ?_⟩
                have em := q2 rfl
                rw [em]
                show Cur R b ad _ (μ''.put (ad k) (.dt (putD (dn ++ optKV c ro) (keyC c) (fD (maxQ (gapC R k bb) v)))))
                rw [opt_put dnn]
                refine (cu.put adb adinj hkl (dn ++ [(keyC c, fD (maxQ (gapC R k bb) v))])).same fun j' hj' => ?_
                by_cases y : j' = k
                · rw [if_pos y, if_pos y]; rfl
                · rw [if_neg y, if_neg y, if_neg y]
              · subst q3
                rw [q1 rfl]
                exact sx_next ⟨ezs, ⟨_, _, _, _, _, rfl⟩, cu⟩
            · have enext : nearS R ps k (nearF R ps (R.length - (k + 1))) c ro s = ro := by
                unfold nearS
                rw [if_neg (by rw [ha]; decide)]
              rw [enext]
              exact sx_next ⟨ezs, ⟨_, _, _, _, _, rfl⟩, cu⟩
        · obtain ⟨ezs, ⟨x9, x10, x14, x15, x16, rfl⟩, cu⟩ := jv
          rw [ezs, List.length_map, List.take_length] at cu
          refine ⟨eys, ⟨_, _, _, _, _, _, rfl⟩, cu.same fun j' hj' => ?_⟩
          by_cases y : j' = k
          · rw [if_pos y, if_pos y, take_succ_of hc, List.filterMap_append, hdn]
            congr 1
            have er := run_all (R := R) (ps := ps) hkl c
            rw [ec] at er
            obtain ⟨v, hv, _⟩ := near_spec w hp (R.length - k) c (by omega)
            have ep : nearP R ps (R.length - k) c = some (keyC c, fD v) := by unfold nearP; rw [hv]; rfl
            rw [er, hv, List.filterMap_cons_some ep]
            rfl
          · rw [if_neg y, if_neg y]
    · obtain ⟨eys, ⟨x8, x9, x10, x14, x15, x16, rfl⟩, cu⟩ := iv
      rw [eys, List.length_map, List.take_length] at cu
      refine ⟨exs, by omega, ⟨_, _, _, _, _, _, _, _, _, _, _, rfl⟩, cu.same fun j' hj' => ?_⟩
      have e : R.length - (m + 1) = k := by omega
      rw [e]
      unfold curN
      by_cases y : j' = k
      · rw [if_pos y, if_pos (by omega), y]; rfl
      · rw [if_neg y]
        by_cases z : k + 1 ≤ j'
        · rw [if_pos z, if_pos (by omega)]
        · rw [if_neg z, if_neg (by omega)]
  · obtain ⟨exs, _, ⟨x5, x6, x7, x8, x9, x10, x12, x13, x14, x15, x16, rfl⟩, cu⟩ := iv
    have el : xs.length = R.length := by rw [exs]; unfold downD; rw [List.length_map, List.length_range]
    rw [el, Nat.sub_self] at cu
    refine sx_retV 2 (exD (ev_v (d := .mref b) rfl)) (fun a z => z) fun d μ5 ⟨e, em⟩ => ?_
    subst e em
    show der μ5 2 (.mref b) = waysD R ps
    rw [cu.view]
    unfold waysD
    exact congrArg D.lst (List.map_congr_left fun j _ => by unfold curN; rw [if_pos (Nat.zero_le _)])
theorem run_law_ways : ∀ vs H Q E, sp_law_ways K vs H Q E → t_law_ways K { nx := fun _ H' => Q .non H', rt := Q } (L2.start ["rounds", "payers", "dues_so", "guests", "layers", "place", "row", "later", "counts", "name", "at", "nearest", "layer", "gaps_so", "there", "gap", "rest"] vs) H := sp_runX 17 rfl fun lk _ x h => st_law_ways lk x h
end
end RF

set_option Elab.async false
set_option linter.all false
set_option maxRecDepth 100000
set_option maxHeartbeats 4000000
set_option autoImplicit false
set_option exponentiation.threshold 6000
namespace RF
open PySem L2
/-! ### ways on from more payers -/
theorem way_less {R : Rounds} {ps qs ws : List Str} (h : qs.take ps.length = ps) (hw : Way R qs ws) : Way R ps ws := by
  refine ⟨hw.len, hw.pays, ?_⟩
  have hl : ps.length ≤ qs.length := by
    have := congrArg List.length h
    rw [List.length_take] at this
    omega
  have := congrArg (List.take ps.length) hw.pre
  rw [List.take_take, Nat.min_eq_left hl, h] at this
  exact this
theorem least_less {R : Rounds} (w : Wf R) {ps qs : List Str} (hp : Pays R ps) (hq : Pays R qs) (h : qs.take ps.length = ps) : leastQ R ps ≤ leastQ R qs := by
  obtain ⟨ws, hw, e⟩ := (least_is w hq).way
  rw [← e]
  exact (least_is w hp).low ws (way_less h hw)
theorem take_snoc (ps : List Str) (s : Str) : (ps ++ [s]).take ps.length = ps := List.take_left' rfl
theorem least_next {R : Rounds} (w : Wf R) {ps : List Str} (hp : Pays R ps) {r : Row} (hr : R[ps.length]? = some r) : ∃ s ∈ canQ r, Pays R (ps ++ [s]) ∧ leastQ R (ps ++ [s]) = leastQ R ps := by
  obtain ⟨ws, hw, e⟩ := (least_is w hp).way
  have hl : ps.length < R.length := (List.getElem?_eq_some_iff.mp hr).1
  have hwl : ps.length < ws.length := by rw [hw.len]; exact hl
  have hs : ws[ps.length]? = some ws[ps.length] := List.getElem?_eq_getElem hwl
  have hc := hw.pays.2 _ _ _ hr hs
  have hp' := hp.snoc hr hc
  refine ⟨_, hc, hp', Rat.le_antisymm ?_ (least_less w hp hp' (take_snoc _ _))⟩
  rw [← e]
  refine (least_is w hp').low ws ⟨hw.len, hw.pays, ?_⟩
  have e2 := take_succ_of hs
  rw [hw.pre] at e2
  rw [List.length_append, List.length_singleton]
  exact e2
theorem least_whole {R : Rounds} (w : Wf R) {ps : List Str} (hp : Pays R ps) (h : ps.length = R.length) : leastQ R ps = unfQ R ps := by
  obtain ⟨ws, hw, e⟩ := (least_is w hp).way
  have : ws = ps := by
    have := hw.pre
    rw [h, ← hw.len, List.take_length] at this
    exact this
  rw [← e, this]
theorem next_mem {R : Rounds} (w : Wf R) {ps : List Str} (hp : Pays R ps) {b : Rat} (hb : 0 ≤ b) {r : Row} (hr : R[ps.length]? = some r) : nextQ R ps b = (canQ r).filter fun s => decide (leastQ R (ps ++ [s]) ≤ b) := by
  unfold nextQ
  rw [hr]
  refine List.filter_congr fun s hs => ?_
  rw [Bool.eq_iff_iff, kept_least w (hp.snoc hr hs) hb, decide_eq_true_iff]
theorem next_none {R : Rounds} (w : Wf R) {ps : List Str} (hp : Pays R ps) {b : Rat} (hb : 0 ≤ b) {r : Row} (hr : R[ps.length]? = some r) : nextQ R ps b = [] ↔ b < leastQ R ps := by
  rw [next_mem w hp hb hr, List.filter_eq_nil_iff]
  constructor
  · intro h
    obtain ⟨s, hs, hp', e⟩ := least_next w hp hr
    have := h s hs
    rw [decide_eq_true_iff, e] at this
    exact Rat.not_le.mp this
  · intro h s hs
    rw [decide_eq_true_iff]
    intro z
    have := least_less w hp (hp.snoc hr hs) (take_snoc _ _)
    exact absurd h (Rat.not_lt.mpr (Rat.le_trans this z))
theorem isgap_bq {R : Rounds} (w : Wf R) {q : Rat} (h : IsGap R q) : Bq (2 ^ 900) q := by
  rcases h with rfl | ⟨s, hs, k, hk, n, hn, rfl⟩
  · exact .zero (Nat.pos_of_ne_zero (by decide))
  · have := w.len
    exact gapT_bq w s k (by omega)
section
variable {K : PySem.W.Frag} {lk : Bool} {ρ : List Sl} {ta tb te tg : TE} {P : D → Prop}
/-! ### _law_least -/
def sp_law_least (K : PySem.W.Frag) : Sp := spP K false encRP preWy (fun x d => d = fD (leastQ x.1 x.2))
/-- slots: 0 rounds, 1 payers -/
def t_law_least (K : PySem.W.Frag) : TS := (tRet (rIxU K (rIxU K (tCall (sp_law_ways K) [] E0 (tCons (tVar 0) (tCons (tVar 1) tNil))) (tC (.int 0))) (tOp (rMulU K) (tTupU (tCons (tC (.int 0)) tNil)) (tCB (rLenU K) (tCons (tCall (sp_law_names K) [] E0 (tCons (tVar 0) tNil)) tNil)))))
theorem st_law_least (lk : Bool) (x : RP) (h : preWy x) : StS K lk (t_law_least K) (startS 2 (encRP x)) (Fn fun d => d = fD (leastQ x.1 x.2)) := by
  obtain ⟨R, ps⟩ := x
  have h : WfW R ps := h
  have wk := h.k
  have w := wk.w
  have n40 := names_len w
  refine st_ret (dkT.eget (k := keyC (List.replicate (namesQ R).length 0)) (kvs := nearKV R ps 0) (eu_ixL (ds := (List.range (R.length + 1)).map fun k => .dt (nearKV R ps k)) (i := ((0 : Nat) : Int)) (ev_call ((R, ps) : RP) (ea_cons (ev_v rfl) (ea_cons (ev_v rfl) ea_nil)) h) ev_int (at_G _ (by omega))) (ev_is (eu_repK (k := gkI 0) (n := (namesQ R).length) (eu_tupK [gkI 0] (ea_cons ev_int ea_nil) (by show 1 ≤ 1000; decide)) (ev_is (eu_lenL (ev_names rfl (ev_v rfl) w.preR)) (by rw [List.length_map])) (names_pos wk) (by omega)) ?_) (d := fD (leastQ R ps)) ?_) fun d e => e
  · show D.tk _ = D.tk (keyC _)
    unfold keyC
    rw [List.map_replicate]
  · unfold nearKV
    rw [Nat.sub_zero]
    exact near_get (lay_nodup R ps 0) (by simp [lay]) (near_least w h.p)
theorem run_law_least : ∀ vs H Q E, sp_law_least K vs H Q E → t_law_least K { nx := fun _ H' => Q .non H', rt := Q } (L2.start ["rounds", "payers"] vs) H := sp_run 2 rfl fun lk _ x h => st_law_least lk x h
/-! ### payers and one more, drawn -/
theorem ev_snocP {ws : List Str} {A : Str → Prop} (h : EvD K lk ta ρ (.tf ws)) (hs : EvS K lk tb ρ (fun d => ∃ s, d = .str s ∧ A s)) (hl : ws.length ≤ 1000) : EvS K lk (tOp (rAddU K) ta (tTupU (tCons tb tNil))) ρ (fun d => ∃ s, d = .tf (ws ++ [s]) ∧ A s) :=
  ev_op (A := fun d => d = .tf ws) (B := fun d => ∃ s, d = .tf [s] ∧ A s) h (eu_tupF' (ea_cons' hs ea_nil (R := fun as => ∃ s, as = dats ([s].map D.str) ∧ A s) fun d as ⟨s, e, hs⟩ e2 => ⟨s, by rw [e, e2]; rfl, hs⟩) fun as ⟨s, e, hs⟩ => ⟨[s], e, by show 1 ≤ 1000; decide, s, rfl, hs⟩) fun x y ex ⟨s, ey, hs⟩ => by
    subst ex ey
    exact rvr (rvr (rvl fun w v u ok _ r1 r2 Q g => by
      obtain ⟨a, o1, rfl, s1, d1⟩ := r1
      obtain ⟨b, o2, rfl, s2, d2⟩ := r2
      refine ⟨a, b, _, _, rfl, rfl, sqT_tf ok s1, sqT_tf ok s2, ?_, fun z => ?_, fun z => ?_, fun c o hc hd => ?_⟩
      · rw [List.length_map, List.length_map]
        exact Nat.le_trans (show ws.length + 1 ≤ 1001 by omega) (by decide)
      · have e : ws = [] := List.map_eq_nil_iff.mp z
        subst e
        exact g.here (d := .tf [s]) ok ⟨b, o2, rfl, s2, d2⟩ ⟨s, rfl, hs⟩
      · cases z
      · rw [← List.map_append]
        exact new_tf g ok hc hd ⟨s, rfl, hs⟩))
/-- xs[draw(len(xs))] of a tuple of texts -/
theorem ev_pickT {i : Nat} {xs : List Str} (ht : ρ[i]? = some .tape) (h : EvD K lk ta ρ (.tf xs)) (h0 : 0 < xs.length) (hl : xs.length ≤ 1000) : EvS K lk (rIxU K ta (tCall (sp_law_draw K) [] E0 (tCons (tVar i) (tCons (tCB (rLenU K) (tCons ta tNil)) tNil)))) ρ (fun d => ∃ s, d = .str s ∧ s ∈ xs) := by
  have e60 : (2 : Int) ^ 60 = 1152921504606846976 := by decide
  refine eu_ixTP (A := fun i => 0 ≤ i ∧ i < (xs.length : Int)) (ev_tf h) (ev_draw ht (ev_is (eu_lenT (ev_tf h)) (by rw [List.length_map])) (by omega) (by omega)) fun i hi => ?_
  obtain ⟨k, rfl⟩ : ∃ k : Nat, i = k := ⟨i.toNat, by omega⟩
  have hk : k < xs.length := by omega
  exact ⟨.str xs[k], atI_nat (by rw [List.getElem?_map, List.getElem?_eq_getElem hk]; rfl), _, rfl, List.getElem_mem hk⟩
theorem ev_pickL {i : Nat} {xs : List Str} (ht : ρ[i]? = some .tape) (h : EvD K lk ta ρ (.lst (xs.map D.str))) (h0 : 0 < xs.length) (hl : xs.length ≤ 1000) : EvS K lk (rIxU K ta (tCall (sp_law_draw K) [] E0 (tCons (tVar i) (tCons (tCB (rLenU K) (tCons ta tNil)) tNil)))) ρ (fun d => ∃ s, d = .str s ∧ s ∈ xs) := by
  have e60 : (2 : Int) ^ 60 = 1152921504606846976 := by decide
  refine eu_ixLP (A := fun i => 0 ≤ i ∧ i < (xs.length : Int)) h (ev_draw ht (ev_is (eu_lenL h) (by rw [List.length_map])) (by omega) (by omega)) fun i hi => ?_
  obtain ⟨k, rfl⟩ : ∃ k : Nat, i = k := ⟨i.toNat, by omega⟩
  have hk : k < xs.length := by omega
  exact ⟨.str xs[k], atI_nat (by rw [List.getElem?_map, List.getElem?_eq_getElem hk]; rfl), _, rfl, List.getElem_mem hk⟩
/-- frac(1 + draw(a), 1 + draw(b)) -/
theorem ev_fracD {i : Nat} {a b : Int} (ht : ρ[i]? = some .tape) (ha : 0 < a ∧ a ≤ 1000) (hb : 0 < b ∧ b ≤ 1000) : EvS K lk (tCall (sp_law_frac K) [] E0 (tCons (tOp (rAddU K) (tC (.int 1)) (tCall (sp_law_draw K) [] E0 (tCons (tVar i) (tCons (tC (.int a)) tNil)))) (tCons (tOp (rAddU K) (tC (.int 1)) (tCall (sp_law_draw K) [] E0 (tCons (tVar i) (tCons (tC (.int b)) tNil)))) tNil))) ρ (fun d => ∃ q, d = fD q ∧ 0 < q ∧ Bq 1000 q) := by
  have e60 : (2 : Int) ^ 60 = 1152921504606846976 := by decide
  refine ev_call' (fun h => Bool.noConfusion h) (ea_cons' (eu_addP (A := fun i => i = 1) (B := fun r => 0 ≤ r ∧ r < a) (C := fun m => 1 ≤ m ∧ m ≤ 1000) (ev_intP rfl) (ev_draw ht ev_int ha.1 (by omega)) fun i j hi hj => by omega) (ea_cons' (C := fun as => as = []) (R := fun as => ∃ m : Int, as = [.d (.int m)] ∧ 1 ≤ m ∧ m ≤ 1000) (eu_addP (A := fun i => i = 1) (B := fun r => 0 ≤ r ∧ r < b) (C := fun m => 1 ≤ m ∧ m ≤ 1000) (ev_intP rfl) (ev_draw ht ev_int hb.1 (by omega)) fun i j hi hj => by omega) ea_nil fun d as ⟨m, e, hm⟩ e2 => ⟨m, by rw [e, e2], hm⟩) (R := fun as => ∃ n m : Int, as = [.d (.int n), .d (.int m)] ∧ (1 ≤ n ∧ n ≤ 1000) ∧ 1 ≤ m ∧ m ≤ 1000) fun d as ⟨n, e, hn⟩ ⟨m, e2, hm⟩ => ⟨n, m, by rw [e, e2], hn, hm⟩) fun as ⟨n, m, e, hn, hm⟩ => ⟨((n, m) : TI2), e, ⟨by show 0 < m; omega, ?_⟩, fun d ed => ⟨_, ed, ?_, ?_⟩⟩
  · have : (1000 : Nat) < 2 ^ 5000 := by decide
    show m.natAbs < 2 ^ 5000
    omega
  · have hm0 : (0 : Rat) < ((m.toNat : Nat) : Rat) := by
      have : 0 < m.toNat := by omega
      exact_mod_cast this
    have hn0 : (0 : Rat) < ((n : Int) : Rat) := by
      have : (0 : Int) < n := by omega
      exact_mod_cast this
    show 0 < mkRat n m.toNat
    rw [Rat.mkRat_eq_div, Rat.lt_div_iff hm0]
    grind
  · exact Bq.mk (by show m.toNat ≠ 0; omega) (by show n.natAbs ≤ 1000; omega) (by show m.toNat ≤ 1000; omega)
end
end RF

set_option Elab.async false
set_option linter.all false
set_option maxRecDepth 100000
set_option maxHeartbeats 4000000
set_option autoImplicit false
set_option exponentiation.threshold 6000
namespace RF
open PySem L2
/-! ### the best way -/
theorem pick_ok {R : Rounds} (w : Wf R) {b : Rat} (hb : 0 ≤ b) {bs : List Str} (hp : Pays R bs) {r : Row} (hr : R[bs.length]? = some r) (hle : leastQ R bs ≤ b) : pickK R b bs (canQ r) ∈ canQ r ∧ leastQ R (bs ++ [pickK R b bs (canQ r)]) ≤ b := by
  obtain ⟨s0, hs0, hp0, e0⟩ := least_next w hp hr
  have hk : keptB (R, bs ++ [s0], b) = true := (kept_least w hp0 hb).mpr (by rw [e0]; exact hle)
  unfold pickK
  cases e : (canQ r).find? fun s => keptB (R, bs ++ [s], b) with
  | none => exact absurd hk (List.find?_eq_none.mp e s0 hs0)
  | some s =>
    have h1 := List.mem_of_find?_eq_some e
    have h2 := List.find?_some e
    exact ⟨h1, (kept_least w (hp.snoc hr h1) hb).mp h2⟩
theorem bestTo_ok {R : Rounds} (w : Wf R) {ps : List Str} (hp : Pays R ps) : ∀ n, ps.length + n ≤ R.length → Pays R (bestTo R (leastQ R ps) ps n) ∧ (bestTo R (leastQ R ps) ps n).take ps.length = ps ∧ leastQ R (bestTo R (leastQ R ps) ps n) ≤ leastQ R ps
  | 0, _ => ⟨hp, List.take_length, Rat.le_refl⟩
  | n + 1, h => by
    obtain ⟨h1, h2, h3⟩ := bestTo_ok w hp n (by omega)
    have bl := bestTo_len (R := R) (b := leastQ R ps) (ps := ps) n (by omega)
    have hr : R[(bestTo R (leastQ R ps) ps n).length]? = some (R[ps.length + n]'(by omega)) := by rw [bl]; exact List.getElem?_eq_getElem _
    obtain ⟨p1, p2⟩ := pick_ok w (least_nonneg w hp) h1 hr h3
    have es : bestTo R (leastQ R ps) ps (n + 1) = bestTo R (leastQ R ps) ps n ++ [pickK R (leastQ R ps) (bestTo R (leastQ R ps) ps n) (canQ (R[ps.length + n]'(by omega)))] := by
      show stepW R (leastQ R ps) (bestTo R (leastQ R ps) ps n) = _
      unfold stepW
      rw [hr]
    rw [es]
    refine ⟨h1.snoc hr p1, ?_, p2⟩
    rw [List.take_append_of_le_length (by rw [bl]; omega)]
    exact h2
theorem best_way {R : Rounds} (w : Wf R) {ps : List Str} (hp : Pays R ps) : Way R ps (bestW R ps) := by
  have hl := hp.1
  obtain ⟨h1, h2, h3⟩ := bestTo_ok w hp (R.length - ps.length) (by omega)
  exact ⟨by unfold bestW; rw [bestTo_len _ (by omega)]; omega, h1, h2⟩
theorem best_unf {R : Rounds} (w : Wf R) {ps : List Str} (hp : Pays R ps) : unfQ R (bestW R ps) = leastQ R ps := by
  have hl := hp.1
  obtain ⟨h1, h2, h3⟩ := bestTo_ok w hp (R.length - ps.length) (by omega)
  have hw := best_way w hp
  refine Rat.le_antisymm ?_ ((least_is w hp).low _ hw)
  rw [← least_whole w hw.pays hw.len]
  exact h3
section
variable {K : PySem.W.Frag} {lk : Bool} {ρ : List Sl} {ta tb te tg : TE} {P : D → Prop}
/-! ### _law_first_way -/
def sp_law_first_way (K : PySem.W.Frag) : Sp := spP K false encRP preWy (fun x d => d = .tf (bestW x.1 x.2))
/-- slots: 0 rounds, 1 payers, 2 bound, 3 name -/
def t_law_first_way (K : PySem.W.Frag) : TS := (tSeq (tAsg (tCall (sp_law_least K) [] E0 (tCons (tVar 0) (tCons (tVar 1) tNil))) (gName 2)) (tSeq (tWhile (tTest (tOp (rLtU K) (tCB (rLenU K) (tCons (tVar 1) tNil)) (tCB (rLenU K) (tCons (tVar 0) tNil)))) (tSeq (tFor (iSeq K (tCall (sp_law_can K) [] E0 (tCons (rIxU K (tVar 0) (tCB (rLenU K) (tCons (tVar 1) tNil))) tNil))) (gName 3) (tIfS (tNot (tB (tCall (sp_law_below K) [] E0 (tCons (tVar 2) (tCons (tCall (sp_law_least K) [] E0 (tCons (tVar 0) (tCons (tOp (rAddU K) (tVar 1) (tTupU (tCons (tVar 3) tNil))) tNil))) tNil))))) tBreak tNext)) (tAsg (tOp (rAddU K) (tVar 1) (tTupU (tCons (tVar 3) tNil))) (gName 1)))) (tRet (tVar 1))))
theorem st_law_first_way (lk : Bool) (x : RP) (h : preWy x) : StS K lk (t_law_first_way K) (startS 4 (encRP x)) (Fn fun d => d = .tf (bestW x.1 x.2)) := by
  obtain ⟨R, ps⟩ := x
  have h : WfW R ps := h
  have wk := h.k
  have hp := h.p
  have few := h.few
  have w := wk.w
  have hl := w.len
  have hp1 := hp.1
  have sb := least_small w hp
  have b0 := least_nonneg w hp
  refine st_letD (d := fD (leastQ R ps)) (ev_call ((R, ps) : RP) (ea_cons (ev_v rfl) (ea_cons (ev_v rfl) ea_nil)) h) ?_
  refine st_seq (fun ρ => ∃ x3, ρ = [.dat (rsD R), .dat (.tf (bestW R ps)), .dat (fD (leastQ R ps)), x3]) (st_while (fun m ρ => ∃ n x3, ρ = [.dat (rsD R), .dat (.tf (bestTo R (leastQ R ps) ps n)), .dat (fD (leastQ R ps)), x3] ∧ ps.length + n ≤ R.length ∧ m = R.length - ps.length - n) (R.length - ps.length - 0) ⟨0, _, rfl, by omega, rfl⟩ ?_) fun ρ ⟨x3, e⟩ => by
    subst e
    exact st_ret (ev_v rfl) fun d e => e
  rintro m ρ ⟨n, x3, rfl, hn, rfl⟩
  have bl := bestTo_len (R := R) (b := leastQ R ps) (ps := ps) n hn
  have hbp := (bestTo_ok w hp n hn).1
  generalize hbs : bestTo R (leastQ R ps) ps n = bs at bl hbp
  refine ⟨decide ((bs.length : Int) < (R.length : Int)), et_test (eu_lt (ev_is (eu_lenT (ev_tf (ev_v rfl))) (by rw [List.length_map])) (ev_lenR (R := R) (ev_v rfl))), fun hb => ?_, fun hb => ?_⟩
  · have hb : bs.length < R.length := by have := of_decide_eq_true hb; omega
    have hr : R[bs.length]? = some R[bs.length] := List.getElem?_eq_getElem hb
    generalize hrr : R[bs.length] = r at hr
    have wr := w.rows r (List.mem_of_getElem? hr)
    have hne := can_ne wr
    refine st_seq (fun ρ => ρ = [.dat (rsD R), .dat (.tf bs), .dat (fD (leastQ R ps)), .dat (.str (pickK R (leastQ R ps) bs (canQ r)))]) (st_forD (js := [3]) (is_lst (ev_canQ rfl (eu_ixT (ev_v rfl) (ev_is (eu_lenT (ev_tf (ev_v rfl))) (by rw [List.length_map])) (at_row hr)) wr.len)) (fun j ρ => ∃ x3, ρ = [.dat (rsD R), .dat (.tf bs), .dat (fD (leastQ R ps)), x3] ∧ (∀ t ∈ (canQ r).take j, keptB (R, bs ++ [t], leastQ R ps) = false) ∧ (∀ s, 0 < j → (canQ r)[j - 1]? = some s → x3 = .dat (.str s))) ⟨_, rfl, (by simp), fun s h => absurd h (by omega)⟩ (fun j y ρ1 hy iv => ?_) fun ρ' iv => ?_) fun ρ e => ?_
    · obtain ⟨x3, rfl, h1, _⟩ := iv
      rw [List.getElem?_map] at hy
      cases hg : (canQ r)[j]? with
      | none => rw [hg] at hy; cases hy
      | some s =>
        rw [hg] at hy
        have hy : D.str s = y := Option.some.inj hy
        subst hy
        have hsc := List.mem_of_getElem? hg
        have hps := hbp.snoc hr hsc
        refine ⟨_, tg_name, ?_⟩
        refine st_if (b := keptB (R, bs ++ [s], leastQ R ps)) (eb_is (et_not (ev_less rfl (ev_v rfl) (ev_call ((R, bs ++ [s]) : RP) (ea_cons (ev_v rfl) (ea_cons (eu_catF (ev_v rfl) (eu_tupF [s] (ea_cons (ev_v rfl) ea_nil)) (by rw [List.length_singleton]; omega)) ea_nil)) ⟨wk, hps, few⟩) sb (least_small w hps))) ?_) (fun hk => ?_) fun hk => ?_
        · rw [Bool.eq_iff_iff, kept_least w hps b0]
          simp [Rat.not_lt]
        · refine st_break ?_
          show _ = _
          unfold pickK
          rw [find_take hg h1 hk]
          rfl
        · refine st_next ⟨.dat (.str s), rfl, fun t ht => ?_, fun u _ hu => ?_⟩
          · rw [take_succ_of hg] at ht
            rcases List.mem_append.mp ht with z | z
            · exact h1 t z
            · rw [show t = s by simpa using z]; exact hk
          · rw [show j + 1 - 1 = j by omega, hg] at hu
            cases hu
            rfl
    · obtain ⟨x3, rfl, h1, h2⟩ := iv
      rw [List.length_map, List.take_length] at h1
      rw [List.length_map] at h2
      have hpos : 0 < (canQ r).length := List.length_pos_iff.mpr hne
      have hlast : (canQ r)[(canQ r).length - 1]? = some ((canQ r)[(canQ r).length - 1]) := List.getElem?_eq_getElem (by omega)
      show _ = _
      rw [h2 _ hpos hlast]
      have e1 : (canQ r).find? (fun s => keptB (R, bs ++ [s], leastQ R ps)) = none := List.find?_eq_none.mpr fun t ht => by rw [h1 t ht]; exact Bool.false_ne_true
      unfold pickK
      rw [e1]
      show _ = [_, _, _, Sl.dat (.str ((canQ r).getLastD ""))]
      rw [List.getLastD_eq_getLast?, List.getLast?_eq_getElem?, hlast]
      rfl
    · subst e
      refine st_asg (eu_catF (ev_v rfl) (eu_tupF [pickK R (leastQ R ps) bs (canQ r)] (ea_cons (ev_v rfl) ea_nil)) (by rw [List.length_singleton]; omega)) fun d e => ⟨R.length - ps.length - (n + 1), by omega, n + 1, .dat (.str (pickK R (leastQ R ps) bs (canQ r))), ?_, by omega, rfl⟩
      subst e
      have es : bestTo R (leastQ R ps) ps (n + 1) = bs ++ [pickK R (leastQ R ps) bs (canQ r)] := by
        show stepW R (leastQ R ps) (bestTo R (leastQ R ps) ps n) = _
        unfold stepW
        rw [hbs, hr]
      rw [es]
      rfl
  · have hb : R.length ≤ bs.length := by have := of_decide_eq_false hb; omega
    refine ⟨x3, ?_⟩
    rw [← hbs]
    unfold bestW
    rw [show R.length - ps.length = n by omega]
theorem run_law_first_way : ∀ vs H Q E, sp_law_first_way K vs H Q E → t_law_first_way K { nx := fun _ H' => Q .non H', rt := Q } (L2.start ["rounds", "payers", "bound", "name"] vs) H := sp_run 4 rfl fun lk _ x h => st_law_first_way lk x h
end
end RF

set_option Elab.async false
set_option linter.all false
set_option maxRecDepth 100000
set_option maxHeartbeats 4000000
set_option autoImplicit false
set_option exponentiation.threshold 6000
namespace RF
open PySem L2
/-! ### payments that fit, payments that are due -/
def fitsB (R : Rounds) (ps : List Str) (b : Rat) (p : Str × Nat) (k : Nat) : Bool := openB R ps p k && (decide (aheadQ R p.1 p.2 k < b) && decide (behindQ R p.1 p.2 k < b))
def dueB (R : Rounds) (b : Rat) (p : Str × Nat) : Bool := !decide (dueQ R p.1 R.length < ((p.2 - 1 : Nat) : Rat) + b)
theorem le901 (h : True) : 2 * (1000 * 2 ^ 900) < 2 ^ 2000 := by
  have e1 : (2 : Nat) ^ 2000 = 2 ^ 900 * 2 ^ 1100 := by rw [← Nat.pow_add]
  rw [e1]
  have e3 : 2001 ≤ (2 : Nat) ^ 1100 := Nat.le_trans (show 2001 ≤ 2 ^ 11 by decide) (Nat.pow_le_pow_right (by decide) (by decide))
  have e2 := Nat.mul_le_mul_left (2 ^ 900) e3
  have e4 : 0 < (2 : Nat) ^ 900 := Nat.pow_pos (by decide)
  clear e1 e3
  generalize (2 : Nat) ^ 900 = x at *
  omega
theorem nat_plus {n : Nat} {b : Rat} (hn : n ≤ 1000) (hb : Bq (2 ^ 900) b) : Small ((n : Rat) + b) := ((nat_bq hn).add hb).small (le901 trivial)
theorem due_plus {R : Rounds} (w : Wf R) (s : Str) (k : Nat) {b : Rat} (hb : Bq (2 ^ 900) b) : Small (dueQ R s k + b) := ((due_bq w s k).add hb).small (by
  have e1 : 2 * (2 ^ 880 * 2 ^ 900) = 2 ^ 1781 := by rw [← Nat.pow_add, ← Nat.pow_succ']
  rw [e1]
  exact Nat.pow_lt_pow_right (by decide) (by decide))
abbrev FiA : Type := Rounds × List Str × Rat × (Str × Nat) × Nat
def encFi (x : FiA) : List Ar := [.d (rsD x.1), .d (.tf x.2.1), .d (fD x.2.2.1), .d (.tk (payK x.2.2.2.1)), .d (.int (x.2.2.2.2 : Int))]
structure PreFi (x : FiA) : Prop where
  w : Wf x.1
  b : Bq (2 ^ 900) x.2.2.1
  n1 : 1 ≤ x.2.2.2.1.2
  n2 : x.2.2.2.1.2 ≤ 100
  k : x.2.2.2.2 < x.1.length
def sp_fits (K : PySem.W.Frag) : Sp := spP K false encFi PreFi (fun x d => d = .bl (fitsB x.1 x.2.1 x.2.2.1 x.2.2.2.1 x.2.2.2.2))
abbrev DuA : Type := Rounds × Rat × (Str × Nat)
def encDu (x : DuA) : List Ar := [.d (rsD x.1), .d (fD x.2.1), .d (.tk (payK x.2.2))]
structure PreDu (x : DuA) : Prop where
  w : Wf x.1
  ne : 0 < x.1.length
  b : Bq (2 ^ 900) x.2.1
  n1 : 1 ≤ x.2.2.2
  n2 : x.2.2.2 ≤ 100
def sp_is_due (K : PySem.W.Frag) : Sp := spP K false encDu PreDu (fun x d => d = .bl (dueB x.1 x.2.1 x.2.2))
def encLFi (x : FiA) : List Ar := [.d (.dk (dueKV x.1)), .d (rsD x.1), .d (.tf x.2.1), .d (fD x.2.2.1), .d (.tk (payK x.2.2.2.1)), .d (.int (x.2.2.2.2 : Int))]
def sp_law_fits (K : PySem.W.Frag) : Sp := spP K false encLFi (fun x => PreFi x ∧ x.2.2.2.1.1 ∈ namesQ x.1) (fun x d => d = .bl (fitsB x.1 x.2.1 x.2.2.1 x.2.2.2.1 x.2.2.2.2))
def encLDu (x : DuA) : List Ar := [.d (.dk (dueKV x.1)), .d (fD x.2.1), .d (.tk (payK x.2.2))]
def sp_law_is_due (K : PySem.W.Frag) : Sp := spP K false encLDu (fun x => PreDu x ∧ x.2.2.1 ∈ namesQ x.1) (fun x d => d = .bl (dueB x.1 x.2.1 x.2.2))
section
variable {K : PySem.W.Frag} {lk : Bool} {ρ : List Sl} {ta tb te tg : TE} {P : D → Prop}
theorem ev_pay0 {s : Str} {n : Nat} (h : EvD K lk ta ρ (.tk (payK (s, n)))) : EvD K lk (rIxU K ta (tC (.int 0))) ρ (.str s) := eu_ixK (n := 0) (k := .inr s) h ev_int rfl
theorem ev_pay1 {s : Str} {n : Nat} (h : EvD K lk ta ρ (.tk (payK (s, n)))) : EvD K lk (rIxU K ta (tC (.int 1))) ρ (.int (n : Int)) := eu_ixK (n := 1) (k := .inl (n : Int)) h ev_int rfl
theorem ev_tkPay {s : Str} {n : Nat} (hs : EvD K lk ta ρ (.str s)) (hn : EvD K lk tb ρ (.int (n : Int))) : EvD K lk (tTupU (tCons ta (tCons tb tNil))) ρ (.tk (payK (s, n))) := eu_tupK (payK (s, n)) (ea_cons hs (ea_cons hn ea_nil)) (by show 2 ≤ 1000; decide)
/-- slots: 0 rounds, 1 payers, 2 bound, 3 payment, 4 place, 5 gap -/
def t_fits (K : PySem.W.Frag) : TS := (tSeq (tIfS (tNot (tB (tCall (sp_is_open K) [] E0 (tCons (tVar 0) (tCons (tVar 1) (tCons (tVar 3) (tCons (tVar 4) tNil))))))) (tRet (tC (.bl false))) tNext) (tRet (tCB (rAll K) (tCons (tLc (iSeq K (tCall (sp_reach K) [] E0 (tCons (tCall (sp_due_row K) [] E0 (tCons (tVar 0) (tCons (rIxU K (tVar 3) (tC (.int 0))) tNil))) (tCons (rIxU K (tVar 3) (tC (.int 1))) (tCons (tVar 4) tNil))))) (gName 5) tYes (tCall (sp_is_less K) [] E0 (tCons (tVar 5) (tCons (tVar 2) tNil))) [5]) tNil))))
theorem st_fits (lk : Bool) (x : FiA) (h : PreFi x) : StS K lk (t_fits K) (startS 6 (encFi x)) (Fn fun d => d = .bl (fitsB x.1 x.2.1 x.2.2.1 x.2.2.2.1 x.2.2.2.2)) := by
  obtain ⟨R, ps, b, ⟨s, n⟩, k⟩ := x
  obtain ⟨w, hb, n1, n2, hk⟩ := h
  dsimp only at w hb n1 n2 hk ⊢
  refine st_ifq (et_not (et_B (ev_call ((R, ps, (s, n), k) : OpA) (ea_cons (ev_v rfl) (ea_cons (ev_v rfl) (ea_cons (ev_v rfl) (ea_cons (ev_v rfl) ea_nil)))) ⟨w, hk⟩))) (fun ho => ?_) fun ho => st_nextq ?_
  · refine st_retq ev_bl fun d e => ?_
    have ho : openB R ps (s, n) k = false := by simpa using ho
    show d = _
    rw [e]
    unfold fitsB
    rw [ho]
    rfl
  · have ho : openB R ps (s, n) k = true := by simpa using ho
    refine st_ret (eu_all (bs := [decide (aheadQ R s n k < b), decide (behindQ R s n k < b)]) (ev_lc_two (ev_call ((R, s, n, k) : ReA) (ea_cons (ev_call ((R, s) : Rounds × Str) (ea_cons (ev_v rfl) (ea_cons (ev_pay0 (ev_v rfl)) ea_nil)) w) (ea_cons (ev_pay1 (ev_v rfl)) (ea_cons (ev_v rfl) ea_nil))) ⟨w, hk, n1, n2⟩) (ev_lessV (ev_v rfl) (ev_v rfl) (bq_small (ahead_bq w s k n2)) (bq_small hb)) (ev_lessV (ev_v rfl) (ev_v rfl) (bq_small (behind_bq w s k n2)) (bq_small hb)))) fun d e => ?_
    show d = _
    rw [e]
    unfold fitsB
    rw [ho]
    simp
theorem run_fits : ∀ vs H Q E, sp_fits K vs H Q E → t_fits K { nx := fun _ H' => Q .non H', rt := Q } (L2.start ["rounds", "payers", "bound", "payment", "place", "gap"] vs) H := sp_run 6 rfl fun lk _ x h => st_fits lk x h
/-- slots: 0 rounds, 1 bound, 2 payment, 3 last -/
def t_is_due (K : PySem.W.Frag) : TS := (tSeq (tAsg (rIxU K (tCall (sp_due_row K) [] E0 (tCons (tVar 0) (tCons (rIxU K (tVar 2) (tC (.int 0))) tNil))) (tUn (rU fun i => .int (-i)) (tC (.int 1)))) (gName 3)) (tRet (tNotV (tCall (sp_is_less K) [] E0 (tCons (tVar 3) (tCons (tCall (sp_plus K) [] E0 (tCons (tCall (sp_whole K) [] E0 (tCons (tOp rSubI (rIxU K (tVar 2) (tC (.int 1))) (tC (.int 1))) tNil)) (tCons (tVar 1) tNil))) tNil))))))
theorem st_is_due (lk : Bool) (x : DuA) (h : PreDu x) : StS K lk (t_is_due K) (startS 4 (encDu x)) (Fn fun d => d = .bl (dueB x.1 x.2.1 x.2.2)) := by
  obtain ⟨R, b, s, n⟩ := x
  obtain ⟨w, hT, hb, n1, n2⟩ := h
  dsimp only at w hT hb n1 n2 ⊢
  refine st_letD (d := fD (dueQ R s R.length)) (eu_ixT (ev_call ((R, s) : Rounds × Str) (ea_cons (ev_v rfl) (ea_cons (ev_pay0 (ev_v rfl)) ea_nil)) w) (ev_neg ev_int) (at_last hT)) ?_
  exact st_ret (ev_notV (ev_lessV (ev_v rfl) (ev_call ((((n - 1 : Nat) : Rat), b) : Q2) (ea_cons (ev_wholeN (n := n - 1) (ev_is (ev_sub (ev_pay1 (ev_v rfl)) ev_int) (by congr 1; omega))) (ea_cons (ev_v rfl) ea_nil)) ⟨nat_small (by omega), bq_small hb⟩) (due_small w s _) (nat_plus (by omega) hb))) fun d e => e
theorem run_is_due : ∀ vs H Q E, sp_is_due K vs H Q E → t_is_due K { nx := fun _ H' => Q .non H', rt := Q } (L2.start ["rounds", "bound", "payment", "last"] vs) H := sp_run 4 rfl fun lk _ x h => st_is_due lk x h
/-- slots: 0 dues_so, 1 bound, 2 payment -/
def t_law_is_due (K : PySem.W.Frag) : TS := (tRet (tNotV (tCall (sp_law_below K) [] E0 (tCons (rIxU K (rIxU K (tVar 0) (rIxU K (tVar 2) (tC (.int 0)))) (tUn (rU fun i => .int (-i)) (tC (.int 1)))) (tCons (tCall (sp_law_sum K) [] E0 (tCons (tTupU (tCons (tOp rSubI (rIxU K (tVar 2) (tC (.int 1))) (tC (.int 1))) (tCons (tC (.int 1)) tNil))) (tCons (tVar 1) tNil))) tNil)))))
theorem ev_wholeT {n : Nat} (h : EvD K lk te ρ (.int (n : Int))) : EvD K lk (tTupU (tCons te (tCons (tC (.int 1)) tNil))) ρ (fD (n : Rat)) := ev_whole (n := (n : Int)) h
theorem st_law_is_due (lk : Bool) (x : DuA) (h : PreDu x ∧ x.2.2.1 ∈ namesQ x.1) : StS K lk (t_law_is_due K) (startS 3 (encLDu x)) (Fn fun d => d = .bl (dueB x.1 x.2.1 x.2.2)) := by
  obtain ⟨R, b, s, n⟩ := x
  obtain ⟨⟨w, hT, hb, n1, n2⟩, hs⟩ := h
  dsimp only at w hT hb n1 n2 hs ⊢
  exact st_ret (ev_notV (ev_call ((dueQ R s R.length, ((n - 1 : Nat) : Rat) + b) : Q2) (ea_cons (eu_ixT (eu_dget (k := .inr s) (ev_v rfl) (ev_pay0 (ev_v rfl)) (dueKV_get hs)) (ev_neg ev_int) (at_last hT)) (ea_cons (ev_call ((((n - 1 : Nat) : Rat), b) : Q2) (ea_cons (ev_wholeT (n := n - 1) (ev_is (ev_sub (ev_pay1 (ev_v rfl)) ev_int) (by congr 1; omega))) (ea_cons (ev_v rfl) ea_nil)) ⟨nat_small (by omega), bq_small hb⟩) ea_nil)) ⟨due_small w s _, nat_plus (by omega) hb⟩)) fun d e => e
theorem run_law_is_due : ∀ vs H Q E, sp_law_is_due K vs H Q E → t_law_is_due K { nx := fun _ H' => Q .non H', rt := Q } (L2.start ["dues_so", "bound", "payment"] vs) H := sp_run 3 rfl fun lk _ x h => st_law_is_due lk x h
/-- slots: 0 dues_so, 1 rounds, 2 payers, 3 bound, 4 payment, 5 place, 6 name, 7 number, 8 row, 9 before -/
def t_law_fits (K : PySem.W.Frag) : TS := (tSeq (tAsg (tVar 4) (gTup K 2 (gCons (gName 6) (gCons (gName 7) gNil)))) (tSeq (tAsg (rIxU K (tVar 0) (tVar 6)) (gName 8)) (tSeq (tAsg (tIf (tTest (tOp rGtI (tVar 5) (tC (.int 0)))) (rIxU K (tVar 8) (tOp rSubI (tVar 5) (tC (.int 1)))) (tTupU (tCons (tC (.int 0)) (tCons (tC (.int 1)) tNil)))) (gName 9)) (tSeq (tIfS (tOr (tNotInT K (tVar 6) (tCall (sp_law_can K) [] E0 (tCons (rIxU K (tVar 1) (tVar 5)) tNil))) (tNot (tB (tCall (sp_law_below K) [] E0 (tCons (tVar 9) (tCons (tCall (sp_law_sum K) [] E0 (tCons (tTupU (tCons (tOp rSubI (tVar 7) (tC (.int 1))) (tCons (tC (.int 1)) tNil))) (tCons (tVar 3) tNil))) tNil)))))) (tRet (tC (.bl false))) tNext) (tSeq (tIfS (tNot (tB (tCall (sp_law_below K) [] E0 (tCons (tTupU (tCons (tVar 7) (tCons (tC (.int 1)) tNil))) (tCons (tCall (sp_law_sum K) [] E0 (tCons (rIxU K (tVar 8) (tVar 5)) (tCons (tVar 3) tNil))) tNil))))) (tRet (tC (.bl false))) tNext) (tRet (tOrV (tOp rGeI (tVar 5) (tCB (rLenU K) (tCons (tVar 2) tNil))) (tAndV (tOp (rEqU K) (rIxU K (tVar 2) (tVar 5)) (tVar 6)) (tOp (rEqU K) (tCount (tSl (slU K) (tVar 2) tNoPart (tPart (tOp (rAddU K) (tVar 5) (tC (.int 1))))) (tCons (tVar 6) tNil)) (tVar 7))))))))))
theorem st_law_fits (lk : Bool) (x : FiA) (h : PreFi x ∧ x.2.2.2.1.1 ∈ namesQ x.1) : StS K lk (t_law_fits K) (startS 10 (encLFi x)) (Fn fun d => d = .bl (fitsB x.1 x.2.1 x.2.2.1 x.2.2.2.1 x.2.2.2.2)) := by
  obtain ⟨R, ps, b, ⟨s, n⟩, k⟩ := x
  obtain ⟨⟨w, hb, n1, n2, hk⟩, hs⟩ := h
  dsimp only at w hb n1 n2 hk hs ⊢
  have hr : R[k]? = some R[k] := List.getElem?_eq_getElem hk
  have wr := w.rows _ (List.getElem_mem hk)
  have eo : openB R ps (s, n) k = (decide (s ∈ canQ R[k]) && (decide (ps.length ≤ k) || (decide (ps[k]? = some s) && decide ((ps.take (k + 1)).count s = n)))) := by
    unfold openB
    rw [hr]
  have ea : decide (aheadQ R s n k < b) = decide (dueQ R s k < ((n - 1 : Nat) : Rat) + b) := by
    rw [decide_eq_decide]
    unfold aheadQ
    constructor <;> grind
  have eb : decide (behindQ R s n k < b) = decide ((n : Rat) < dueQ R s (k + 1) + b) := by
    rw [decide_eq_decide]
    unfold behindQ
    constructor <;> grind
  have ef : fitsB R ps b (s, n) k = (openB R ps (s, n) k && (decide (dueQ R s k < ((n - 1 : Nat) : Rat) + b) && decide ((n : Rat) < dueQ R s (k + 1) + b))) := by
    unfold fitsB
    rw [ea, eb]
  rw [ef, eo]
  refine st_letG (js := [6, 7]) (P := fun d => d = .tk (payK (s, n))) (ev_v rfl) fun d e => ?_
  subst e
  refine ⟨_, tg_tk2, ?_⟩
  refine st_letD (d := .tup ((dueRow R s).map fD)) (eu_dget (k := .inr s) (ev_v rfl) (ev_v rfl) (dueKV_get hs)) ?_
  refine st_letD (d := fD (dueQ R s k)) (ev_if (b := decide (0 < k)) (eb_is (et_test (ev_gt (ev_v rfl) ev_int)) (by simp)) (fun hb => ?_) fun hb => ?_) ?_
  · have hb : 0 < k := by simpa using hb
    obtain ⟨j, rfl⟩ : ∃ j, k = j + 1 := ⟨k - 1, by omega⟩
    exact eu_ixT (ev_v rfl) (ev_is (ev_sub (ev_v rfl) ev_int) (by congr 1; show ((j + 1 : Nat) : Int) - 1 = (j : Int); omega)) (at_due (R := R) (s := s) (k := j) (by omega))
  · have hb : k = 0 := by simpa using hb
    subst hb
    exact eu_tup (ds := [.int 0, .int 1]) (ea_cons ev_int (ea_cons ev_int ea_nil))
  refine st_ifq (et_or (et_notinS (s := s) (xs := canQ R[k]) (ev_v rfl) (ev_canQ rfl (eu_ixT (ev_v rfl) (ev_v rfl) (at_row hr)) wr.len)) fun _ => et_not (ev_less rfl (ev_v rfl) (ev_call ((((n - 1 : Nat) : Rat), b) : Q2) (ea_cons (ev_wholeT (n := n - 1) (ev_is (ev_sub (ev_v rfl) ev_int) (by congr 1; omega))) (ea_cons (ev_v rfl) ea_nil)) ⟨nat_small (by omega), bq_small hb⟩) (due_small w s k) (nat_plus (by omega) hb))) (fun hx => ?_) fun hx => st_nextq ?_
  · refine st_retq ev_bl fun d e => ?_
    show d = _
    rw [e]
    rcases Bool.or_eq_true_iff.mp hx with z | z
    · have z : decide (s ∈ canQ R[k]) = false := by simpa using z
      rw [z]
      rfl
    · have z : decide (dueQ R s k < ((n - 1 : Nat) : Rat) + b) = false := by simpa using z
      rw [z]
      simp
  obtain ⟨hx1, hx2⟩ := Bool.or_eq_false_iff.mp hx
  have hx1 : decide (s ∈ canQ R[k]) = true := by simpa using hx1
  have hx2 : decide (dueQ R s k < ((n - 1 : Nat) : Rat) + b) = true := by simpa using hx2
  rw [hx1, hx2]
  refine st_ifq (et_not (ev_less rfl (ev_wholeT (ev_v rfl)) (ev_call ((dueQ R s (k + 1), b) : Q2) (ea_cons (eu_ixT (ev_v rfl) (ev_v rfl) (at_due hk)) (ea_cons (ev_v rfl) ea_nil)) ⟨due_small w s _, bq_small hb⟩) (nat_small (by omega)) (due_plus w s _ hb))) (fun hy => ?_) fun hy => st_nextq ?_
  · refine st_retq ev_bl fun d e => ?_
    have hy : decide ((n : Rat) < dueQ R s (k + 1) + b) = false := by simpa using hy
    show d = _
    rw [e, hy]
    simp
  have hy : decide ((n : Rat) < dueQ R s (k + 1) + b) = true := by simpa using hy
  rw [hy]
  refine st_ret (ev_is (ev_orV (a := decide (ps.length ≤ k)) (b := decide (ps[k]? = some s) && decide ((ps.take (k + 1)).count s = n)) (ev_is (ev_ge (ev_v rfl) (ev_is (eu_lenT (ev_tf (ev_v rfl))) (by rw [List.length_map]))) (by simp)) fun hp => ?_) (by simp)) fun d e => e
  have hp : k < ps.length := by simpa using hp
  have hpk : ps[k]? = some ps[k] := List.getElem?_eq_getElem hp
  refine ev_andV (a := decide (ps[k]? = some s)) (ev_is (eu_eqS (ev_tfix (ev_v rfl) (ev_v rfl) hpk) (ev_v rfl)) (by rw [hpk]; simp)) fun _ => ?_
  refine ev_is (eu_eqI (ev_count (i := 0) (j := 0) (ps := ps) (s := s) (k := k) (ev_v rfl) (ev_v rfl) (ev_v rfl)) (ev_v rfl)) ?_
  congr 1
  rw [decide_eq_decide]
  show ((paidQ ps s (k + 1) : Nat) : Int) = (n : Int) ↔ _
  unfold paidQ
  omega
theorem run_law_fits : ∀ vs H Q E, sp_law_fits K vs H Q E → t_law_fits K { nx := fun _ H' => Q .non H', rt := Q } (L2.start ["dues_so", "rounds", "payers", "bound", "payment", "place", "name", "number", "row", "before"] vs) H := sp_run 10 rfl fun lk _ x h => st_law_fits lk x h
/-! ### _law_bound -/
def sp_law_bound (K : PySem.W.Frag) : Sp := spP K false (fun x : RP => [.tp, .d (rsD x.1), .d (.tf x.2)]) preWy (fun x d => ∃ b, d = fD b ∧ 0 < b ∧ Bq (2 ^ 900) b)
/-- slots: 0 tape, 1 rounds, 2 payers, 3 bound, 4 some -/
def t_law_bound (K : PySem.W.Frag) : TS := (tSeq (tAsg (tCall (sp_law_frac K) [] E0 (tCons (tOp (rAddU K) (tC (.int 1)) (tCall (sp_law_draw K) [] E0 (tCons (tVar 0) (tCons (tC (.int 30)) tNil)))) (tCons (tOp (rAddU K) (tC (.int 1)) (tCall (sp_law_draw K) [] E0 (tCons (tVar 0) (tCons (tC (.int 12)) tNil)))) tNil))) (gName 3)) (tSeq (tAsg (rIxU K (tLst (tCons (tCall (sp_law_least K) [] E0 (tCons (tVar 1) (tCons (tVar 2) tNil))) (tCons (tCall (sp_law_unfair K) [] E0 (tCons (tVar 1) (tCons (tVar 2) tNil))) (tCons (tVar 3) tNil)))) (tCall (sp_law_draw K) [] E0 (tCons (tVar 0) (tCons (tC (.int 3)) tNil)))) (gName 4)) (tRet (tIf (tTest (tOp (rEqU K) (tVar 4) (tTupU (tCons (tC (.int 0)) (tCons (tC (.int 1)) tNil))))) (tVar 3) (tVar 4)))))
theorem st_law_bound (lk : Bool) (x : RP) (h : preWy x) : StS K lk (t_law_bound K) (startS 5 [.tp, .d (rsD x.1), .d (.tf x.2)]) (Fn fun d => ∃ b, d = fD b ∧ 0 < b ∧ Bq (2 ^ 900) b) := by
  obtain ⟨R, ps⟩ := x
  have h : WfW R ps := h
  have w := h.k.w
  have hp := h.p
  refine st_let (ev_fracD (a := 30) (b := 12) rfl (by decide) (by decide)) fun d ⟨q, e, q0, qb⟩ => ?_
  subst e
  have qb : Bq (2 ^ 900) q := qb.mono (Nat.le_trans (show 1000 ≤ 2 ^ 10 by decide) (Nat.pow_le_pow_right (by decide) (by decide)))
  refine st_let (P := fun d => ∃ b, d = fD b ∧ 0 ≤ b ∧ Bq (2 ^ 900) b) (eu_ixLP (ds := [leastQ R ps, unfQ R ps, q].map fD) (A := fun i => 0 ≤ i ∧ i < 3) (ev_lst (ds := [leastQ R ps, unfQ R ps, q].map fD) (ea_cons (ev_call ((R, ps) : RP) (ea_cons (ev_v rfl) (ea_cons (ev_v rfl) ea_nil)) h) (ea_cons (ev_call ((R, ps) : RP) (ea_cons (ev_v rfl) (ea_cons (ev_v rfl) ea_nil)) (hp.ok w)) (ea_cons (ev_v rfl) ea_nil)))) (ev_draw rfl ev_int (by decide) (by decide)) fun i hi => ?_) fun d ⟨b, e, b0, bb⟩ => ?_
  · have : i = 0 ∨ i = 1 ∨ i = 2 := by omega
    rcases this with rfl | rfl | rfl
    · exact ⟨_, rfl, _, rfl, least_nonneg w hp, isgap_bq w (least_gap w hp)⟩
    · exact ⟨_, rfl, _, rfl, unf_nonneg R ps, isgap_bq w (unf_isgap hp.1)⟩
    · exact ⟨_, rfl, _, rfl, Rat.le_of_lt q0, qb⟩
  subst e
  refine st_ret (P := fun d => ∃ b, d = fD b ∧ 0 < b ∧ Bq (2 ^ 900) b) (ev_if (b := decide (b = 0)) (eb_is (et_test (eu_eqD 1 (ev_v rfl) (eu_tup (ds := [.int 0, .int 1]) (ea_cons ev_int (ea_cons ev_int ea_nil))) (plain_frac b) (plain_frac 0))) (eqD_frac b 0)) (fun _ => (ev_v rfl).imp fun d e => ⟨q, e, q0, qb⟩) fun hz => (ev_v rfl).imp fun d e => ⟨b, e, ?_, bb⟩) fun d e => e
  have hz : b ≠ 0 := of_decide_eq_false hz
  grind
theorem run_law_bound : ∀ vs H Q E, sp_law_bound K vs H Q E → t_law_bound K { nx := fun _ H' => Q .non H', rt := Q } (L2.start ["tape", "rounds", "payers", "bound", "some"] vs) H := sp_run 5 rfl fun lk _ x h => st_law_bound lk x h
end
end RF

set_option Elab.async false
set_option linter.all false
set_option maxRecDepth 100000
set_option maxHeartbeats 4000000
set_option autoImplicit false
set_option exponentiation.threshold 6000
namespace RF
open PySem L2
section
variable {K : PySem.W.Frag} {lk : Bool} {ρ : List Sl} {ta tb te tg : TE} {P : D → Prop}
theorem lk_bl (n : Nat) (b : Bool) : Lk n (.bl b) := by cases n <;> exact True.intro
/-- slots: 0 script, 1 tape, 2 guests, 3 turn, 4 rounds, 5 payers, 6 bound, 7 due, 8 name, 9 number, 10 place, 11 good -/
def t_law03_rest (K : PySem.W.Frag) : TS := (tSeq (tAsg (tLst (tCons (tC (.str "ann")) (tCons (tC (.str "bob")) (tCons (tC (.str "cy")) (tCons (tC (.str "dee")) (tCons (tC (.str "eve")) (tCons (tC (.str "fay")) tNil))))))) (gName 2)) (tSeq (tFor (iRng1 (tCons (tC (.int 3)) tNil)) (gName 3) (tSeq (tAsg (tCall (sp_law_rounds K) [] E0 (tCons (tVar 1) (tCons (tC (.int 6)) (tCons (tSl (slU K) (tVar 2) tNoPart (tPart (tOp (rAddU K) (tC (.int 2)) (tCall (sp_law_draw K) [] E0 (tCons (tVar 1) (tCons (tC (.int 3)) tNil)))))) (tCons (tOp (rEqU K) (tCall (sp_law_draw K) [] E0 (tCons (tVar 1) (tCons (tC (.int 2)) tNil))) (tC (.int 0))) tNil))))) (gName 4)) (tSeq (tAsg (tCall (sp_law_payers K) [] E0 (tCons (tVar 1) (tCons (tVar 4) (tCons (tC (.int 6)) tNil)))) (gName 5)) (tSeq (tPar 6 7 (tCons (tCall (sp_law_bound K) [] E0 (tCons (tVar 1) (tCons (tVar 4) (tCons (tVar 5) tNil)))) (tCons (tCall (sp_law_dues K) [] E0 (tCons (tVar 4) tNil)) tNil))) (tFor (iSeq K (tCB (rSortedU K) (tCons (tVar 7) tNil))) (gName 8) (tFor (iRng2 (tCons (tC (.int 1)) (tCons (tOp (rAddU K) (tCB (rLenU K) (tCons (tVar 4) tNil)) (tC (.int 1))) tNil))) (gName 9) (tSeq (tIfS (tNot (tB (tCall (sp_law_like K 7) [] E0 (tCons (tCall (sp_is_due K) [] E0 (tCons (tVar 4) (tCons (tVar 6) (tCons (tTupU (tCons (tVar 8) (tCons (tVar 9) tNil))) tNil)))) (tCons (tCall (sp_law_is_due K) [] E0 (tCons (tVar 7) (tCons (tVar 6) (tCons (tTupU (tCons (tVar 8) (tCons (tVar 9) tNil))) tNil)))) tNil))))) (tRet (tC (.bl false))) tNext) (tFor (iRng1 (tCons (tCB (rLenU K) (tCons (tVar 4) tNil)) tNil)) (gName 10) (tSeq (tAsg (tCall (sp_law_fits K) [] E0 (tCons (tVar 7) (tCons (tVar 4) (tCons (tVar 5) (tCons (tVar 6) (tCons (tTupU (tCons (tVar 8) (tCons (tVar 9) tNil))) (tCons (tVar 10) tNil))))))) (gName 11)) (tIfS (tNot (tB (tCall (sp_law_like K 7) [] E0 (tCons (tCall (sp_fits K) [] E0 (tCons (tVar 4) (tCons (tVar 5) (tCons (tVar 6) (tCons (tTupU (tCons (tVar 8) (tCons (tVar 9) tNil))) (tCons (tVar 10) tNil)))))) (tCons (tVar 11) tNil))))) (tRet (tC (.bl false))) tNext)))))))))) (tRet (tC (.bl true)))))
def t_law03 (K : PySem.W.Frag) : TS := tSeq (t_start K) (t_law03_rest K)
theorem st_law03 : StS K false (t_law03_rest K) (.un :: .tape :: List.replicate 10 .un) (Fn fun d => d = .bl true) := by
  refine st_letD (d := .lst (G6.map D.str)) (ev_lst (ds := G6.map D.str) (ea_cons ev_str (ea_cons ev_str (ea_cons ev_str (ea_cons ev_str (ea_cons ev_str (ea_cons ev_str ea_nil))))))) ?_
  refine st_forq (js := [3]) (xs := rangeD 0 3) (it_rangeN (n := 3) ev_int (by decide)) (fun i ρ => ∃ x3 x4 x5 x6 x7 x8 x9 x10 x11, ρ = [.un, .tape, .dat (.lst (G6.map D.str)), x3, x4, x5, x6, x7, x8, x9, x10, x11]) ⟨_, _, _, _, _, _, _, _, _, rfl⟩ (fun i x ρ1 hx iv => ?_) fun ρ' iv => ?_
  · obtain ⟨x3, x4, x5, x6, x7, x8, x9, x10, x11, rfl⟩ := iv
    refine ⟨_, tg_name, ?_⟩
    refine st_let (ev_rounds (A := fun G => Gs G ∧ ((G.length : Nat) : Int) < 2 + 3) (B := fun _ => True) (most := 6) rfl ev_int (ev_some6 (k := 2) (n := 3) rfl rfl ev_int ev_int (by decide) (by decide) (by decide)) (eu_eqP (A := fun r => 0 ≤ r ∧ r < 2) (ev_draw rfl ev_int (by decide) (by decide)) ev_int fun _ _ => True.intro) (fun G h => h.1) (by decide) (by decide)) fun d ⟨R, G, ac, e, ⟨hG, hGn⟩, _, hR⟩ => ?_
    subst e
    have hG4 : G.length ≤ 4 := by omega
    have wk : WfK R := hR.wfk hG (by decide) (Nat.le_trans (Nat.mul_le_mul_right _ hG4) (by decide))
    have w := wk.w
    have hl := w.len
    have hT1 : 0 < R.length := hR.pos
    have hT6 : R.length ≤ 6 := hR.len
    have hnm : (namesQ R).length ≤ 4 := Nat.le_trans (names_in hR.rows) hG4
    have few : (namesQ R).length ^ R.length ≤ 5000000 := Nat.le_trans (Nat.le_trans (Nat.pow_le_pow_left hnm _) (Nat.pow_le_pow_right (by decide) hT6)) (by decide)
    refine st_let (ev_payers (R := R) (most := 6) rfl rfl ev_int w (by decide)) fun d ⟨ps, e, hp, _⟩ => ?_
    subst e
    refine st_parP (A := fun d => ∃ b, d = fD b ∧ 0 < b ∧ Bq (2 ^ 900) b) (B := fun d => d = .dk (dueKV R)) (ev_call' (fun h => Bool.noConfusion h) (ea_tape (C := fun as => as = [.d (rsD R), .d (.tf ps)]) (R := fun as => as = [.tp, .d (rsD R), .d (.tf ps)]) rfl (ea_cons (ev_v rfl) (ea_cons (ev_v rfl) ea_nil)) fun as e => by rw [e]) fun as e => ⟨((R, ps) : RP), e, ⟨wk, hp, few⟩, fun d h => h⟩) (ev_call R (ea_cons (ev_v rfl) ea_nil) w) fun a d' ⟨b, e, b0, bb⟩ e2 => ?_
    subst e e2
    refine st_for (js := [8]) (X := fun ys => ys = (namesQ R).map D.str) (is_lst (ev_sortDues w (ev_v rfl))) (fun _ k ρ => ∃ x8 x9 x10 x11, ρ = [.un, .tape, .dat (.lst (G6.map D.str)), .dat x, .dat (rsD R), .dat (.tf ps), .dat (fD b), .dat (.dk (dueKV R)), x8, x9, x10, x11]) (fun _ _ => ⟨_, _, _, _, rfl⟩) (fun ys k y ρ1 eys hy iv => ?_) fun _ ρ' _ ⟨x8, x9, x10, x11, e⟩ => ⟨_, _, _, _, _, _, _, _, _, e⟩
    obtain ⟨x8, x9, x10, x11, rfl⟩ := iv
    rw [eys, List.getElem?_map] at hy
    cases hs : (namesQ R)[k]? with
    | none => rw [hs] at hy; cases hy
    | some s =>
      rw [hs] at hy
      have hy : D.str s = y := Option.some.inj hy
      subst hy
      have hsn := List.mem_of_getElem? hs
      refine ⟨_, tg_name, ?_⟩
      have rng : ItS K false (iRng2 (tCons (tC (.int 1)) (tCons (tOp (rAddU K) (tCB (rLenU K) (tCons (tVar 4) tNil)) (tC (.int 1))) tNil))) [.un, .tape, .dat (.lst (G6.map D.str)), .dat x, .dat (rsD R), .dat (.tf ps), .dat (fD b), .dat (.dk (dueKV R)), .dat (.str s), x9, x10, x11] (fun zs => zs = rangeD 1 R.length) := by
        have z := it_range2 (K := K) (lk := false) (ρ := [.un, .tape, .dat (.lst (G6.map D.str)), .dat x, .dat (rsD R), .dat (.tf ps), .dat (fD b), .dat (.dk (dueKV R)), .dat (.str s), x9, x10, x11]) (lo := 1) (n := (R.length : Int) + 1) (ea_cons ev_int (ea_cons (eu_add (ev_lenR (R := R) (ev_v (i := 4) rfl)) ev_int) ea_nil)) (by decide) (by omega)
        rw [show ((R.length : Int) + 1 - 1).toNat = R.length by omega] at z
        exact z
      refine st_forD (js := [9]) rng (fun _ ρ => ∃ x9 x10 x11, ρ = [.un, .tape, .dat (.lst (G6.map D.str)), .dat x, .dat (rsD R), .dat (.tf ps), .dat (fD b), .dat (.dk (dueKV R)), .dat (.str s), x9, x10, x11]) ⟨_, _, _, rfl⟩ (fun j z ρ1 hz jv => ?_) fun ρ' ⟨x9, x10, x11, e⟩ => ⟨_, _, _, _, e⟩
      obtain ⟨x9, x10, x11, rfl⟩ := jv
      obtain ⟨hj, rfl⟩ := get_range hz
      have en : (1 : Int) + (j : Nat) = ((j + 1 : Nat) : Int) := by omega
      rw [en]
      refine ⟨_, tg_name, ?_⟩
      have pd : PreDu (R, b, (s, j + 1)) := ⟨w, hT1, bb, by show 1 ≤ j + 1; omega, by show j + 1 ≤ 100; omega⟩
      refine st_ifq (et_like (d := .bl (dueB R b (s, j + 1))) (ev_call ((R, b, (s, j + 1)) : DuA) (ea_cons (ev_v rfl) (ea_cons (ev_v rfl) (ea_cons (ev_tkPay (ev_v rfl) (ev_v rfl)) ea_nil))) pd) (ev_call ((R, b, (s, j + 1)) : DuA) (ea_cons (ev_v rfl) (ea_cons (ev_v rfl) (ea_cons (ev_tkPay (ev_v rfl) (ev_v rfl)) ea_nil))) ⟨pd, hsn⟩) (lk_bl 7 _)) (fun z => Bool.noConfusion z) fun _ => st_nextq ?_
      have rng2 : ItS K false (iRng1 (tCons (tCB (rLenU K) (tCons (tVar 4) tNil)) tNil)) [.un, .tape, .dat (.lst (G6.map D.str)), .dat x, .dat (rsD R), .dat (.tf ps), .dat (fD b), .dat (.dk (dueKV R)), .dat (.str s), .dat (.int ((j + 1 : Nat) : Int)), x10, x11] (fun zs => zs = rangeD 0 R.length) := it_rangeN (ev_lenR (R := R) (ev_v rfl)) (by omega)
      refine st_forD (js := [10]) rng2 (fun _ ρ => ∃ x10 x11, ρ = [.un, .tape, .dat (.lst (G6.map D.str)), .dat x, .dat (rsD R), .dat (.tf ps), .dat (fD b), .dat (.dk (dueKV R)), .dat (.str s), .dat (.int ((j + 1 : Nat) : Int)), x10, x11]) ⟨_, _, rfl⟩ (fun k z ρ1 hz jv => ?_) fun ρ' ⟨x10, x11, e⟩ => ⟨_, _, _, e⟩
      obtain ⟨x10, x11, rfl⟩ := jv
      obtain ⟨hk, rfl⟩ := get_range hz
      rw [Int.zero_add]
      refine ⟨_, tg_name, ?_⟩
      have pf : PreFi (R, ps, b, (s, j + 1), k) := ⟨w, bb, by show 1 ≤ j + 1; omega, by show j + 1 ≤ 100; omega, hk⟩
      refine st_letD (d := .bl (fitsB R ps b (s, j + 1) k)) (ev_call ((R, ps, b, (s, j + 1), k) : FiA) (ea_cons (ev_v rfl) (ea_cons (ev_v rfl) (ea_cons (ev_v rfl) (ea_cons (ev_v rfl) (ea_cons (ev_tkPay (ev_v rfl) (ev_v rfl)) (ea_cons (ev_v rfl) ea_nil)))))) ⟨pf, hsn⟩) ?_
      exact st_if (et_like (d := .bl (fitsB R ps b (s, j + 1) k)) (ev_call ((R, ps, b, (s, j + 1), k) : FiA) (ea_cons (ev_v rfl) (ea_cons (ev_v rfl) (ea_cons (ev_v rfl) (ea_cons (ev_tkPay (ev_v rfl) (ev_v rfl)) (ea_cons (ev_v rfl) ea_nil))))) pf) (ev_v rfl) (lk_bl 7 _)) (fun z => Bool.noConfusion z) fun _ => st_next ⟨_, _, rfl⟩
  · obtain ⟨x3, x4, x5, x6, x7, x8, x9, x10, x11, rfl⟩ := iv
    exact st_ret ev_bl fun d e => e
theorem run_law03 : ∀ vs H Q E, sp_law K vs H Q E → t_law03 K { nx := fun _ H' => Q .non H', rt := Q } (L2.start ["script", "tape", "guests", "turn", "rounds", "payers", "bound", "due", "name", "number", "place", "good"] vs) H := law_run rfl st_law03
end
end RF

set_option maxHeartbeats 0
namespace RF
open PySem L2
def top (i : Nat) : Stmt := PySem.Challenge.pw_roundfair_k03_payments_that_fit_or_are_d.main.body.getD i (.Pass ⟨0, 0, 0, 0⟩)
theorem sc_fraction : FnScope ["top", "bottom", "one", "other"] ["top", "bottom"] (defScope (top 2)) := ⟨rfl, rfl, rfl, by decide +kernel, rfl, by decide +kernel, by decide +kernel⟩
theorem c_fraction {P : Program} {w : World} {K : PySem.W.Frag} {mg : Str → Option Value} {base : Heap} (F : Df K mg "fraction" (top 2)) (f_abs : mg "abs" = none) : Cal P w K mg base 1 "fraction" ["top", "bottom"] (sp_fraction K) := by
  have sc := sc_fraction
  refine F.cal (k := 0) (t := t_fraction K) sc (fun _ _ _ _ _ _ us hl => match us, hl with | [_, _], _ => rfl) (sp_len fun _ => rfl) run_fraction fun f cdv A outer s H E hr => ?_
  exact (pss_cons (ps_par rfl sc.nd rfl rfl (by decide) rfl rfl (pa_cons (pe_callB call_abs (by rfl) f_abs (by decide +kernel) (pa_cons (pv 0) pa_nil)) (pa_cons (pv 1) pa_nil)) (by rfl)) (pss_cons (ps_while PassesOwn.never (pt_cmpR (ou_ne hr) (pv 3) pe_int (nomark _)) (pss_one (ps_par rfl sc.nd rfl rfl (by decide) rfl rfl (pa_cons (pv 3) (pa_cons (pe_op op_mod (pv 2) (pv 3)) pa_nil)) (by rfl)))) (pss_one (ps_ret (pu_tup (pa_cons (pe_op op_fdivW (pv 0) (pv 2)) (pa_cons (pe_op op_fdivW (pv 1) (pv 2)) pa_nil)))))))
theorem sc_plus : FnScope ["one", "other"] ["one", "other"] (defScope (top 3)) := ⟨rfl, rfl, rfl, by decide +kernel, rfl, by decide +kernel, by decide +kernel⟩
theorem c_plus {P : Program} {w : World} {K : PySem.W.Frag} {mg : Str → Option Value} {base : Heap} (F : Df K mg "plus" (top 3)) (c_fraction : Cal P w K mg base 1 "fraction" ["top", "bottom"] (sp_fraction K)) : Cal P w K mg base 2 "plus" ["one", "other"] (sp_plus K) := by
  have sc := sc_plus
  refine F.cal (k := 1) (t := t_plus K) sc (fun _ _ _ _ _ _ us hl => match us, hl with | [_, _], _ => rfl) (sp_len fun _ => rfl) run_plus fun f cdv A outer s H E hr => ?_
  exact (pss_one (ps_ret (pu_call c_fraction hr (by decide) (by rfl) (pa_cons (pe_op ou_add (pe_op ou_mul (pu_ix hr (pv 0) pe_int (fun _ _ => rfl)) (pu_ix hr (pv 1) pe_int (fun _ _ => rfl))) (pe_op ou_mul (pu_ix hr (pv 1) pe_int (fun _ _ => rfl)) (pu_ix hr (pv 0) pe_int (fun _ _ => rfl)))) (pa_cons (pe_op ou_mul (pu_ix hr (pv 0) pe_int (fun _ _ => rfl)) (pu_ix hr (pv 1) pe_int (fun _ _ => rfl))) pa_nil)) pass0)))
theorem sc_minus : FnScope ["one", "other"] ["one", "other"] (defScope (top 4)) := ⟨rfl, rfl, rfl, by decide +kernel, rfl, by decide +kernel, by decide +kernel⟩
theorem c_minus {P : Program} {w : World} {K : PySem.W.Frag} {mg : Str → Option Value} {base : Heap} (F : Df K mg "minus" (top 4)) (c_fraction : Cal P w K mg base 1 "fraction" ["top", "bottom"] (sp_fraction K)) : Cal P w K mg base 2 "minus" ["one", "other"] (sp_minus K) := by
  have sc := sc_minus
  refine F.cal (k := 1) (t := t_minus K) sc (fun _ _ _ _ _ _ us hl => match us, hl with | [_, _], _ => rfl) (sp_len fun _ => rfl) run_minus fun f cdv A outer s H E hr => ?_
  exact (pss_one (ps_ret (pu_call c_fraction hr (by decide) (by rfl) (pa_cons (pe_op op_sub (pe_op ou_mul (pu_ix hr (pv 0) pe_int (fun _ _ => rfl)) (pu_ix hr (pv 1) pe_int (fun _ _ => rfl))) (pe_op ou_mul (pu_ix hr (pv 1) pe_int (fun _ _ => rfl)) (pu_ix hr (pv 0) pe_int (fun _ _ => rfl)))) (pa_cons (pe_op ou_mul (pu_ix hr (pv 0) pe_int (fun _ _ => rfl)) (pu_ix hr (pv 1) pe_int (fun _ _ => rfl))) pa_nil)) pass0)))
theorem sc_is_less : FnScope ["one", "other"] ["one", "other"] (defScope (top 5)) := ⟨rfl, rfl, rfl, by decide +kernel, rfl, by decide +kernel, by decide +kernel⟩
theorem c_is_less {P : Program} {w : World} {K : PySem.W.Frag} {mg : Str → Option Value} {base : Heap} (F : Df K mg "is_less" (top 5)) : Cal P w K mg base 1 "is_less" ["one", "other"] (sp_is_less K) := by
  have sc := sc_is_less
  refine F.cal (k := 0) (t := t_is_less K) sc (fun _ _ _ _ _ _ us hl => match us, hl with | [_, _], _ => rfl) (sp_len fun _ => rfl) run_is_less fun f cdv A outer s H E hr => ?_
  exact (pss_one (ps_ret (pe_cmpR (ou_lt hr) (pe_op ou_mul (pu_ix hr (pv 0) pe_int (fun _ _ => rfl)) (pu_ix hr (pv 1) pe_int (fun _ _ => rfl))) (pe_op ou_mul (pu_ix hr (pv 1) pe_int (fun _ _ => rfl)) (pu_ix hr (pv 0) pe_int (fun _ _ => rfl))) (nomark _))))
theorem sc_whole : FnScope ["number"] ["number"] (defScope (top 6)) := ⟨rfl, rfl, rfl, by decide +kernel, rfl, by decide +kernel, by decide +kernel⟩
theorem c_whole {P : Program} {w : World} {K : PySem.W.Frag} {mg : Str → Option Value} {base : Heap} (F : Df K mg "whole" (top 6)) : Cal P w K mg base 1 "whole" ["number"] (sp_whole K) := by
  have sc := sc_whole
  refine F.cal (k := 0) (t := t_whole K) sc (fun _ _ _ _ _ _ us hl => match us, hl with | [_], _ => rfl) (sp_len fun _ => rfl) run_whole fun f cdv A outer s H E hr => ?_
  exact (pss_one (ps_ret (pu_tup (pa_cons (pv 0) (pa_cons pe_int pa_nil)))))
theorem sc_part : FnScope ["row", "name", "some", "guest", "weight", "can"] ["row", "name"] (defScope (top 8)) := ⟨rfl, rfl, rfl, by decide +kernel, rfl, by decide +kernel, by decide +kernel⟩
theorem c_part {P : Program} {w : World} {K : PySem.W.Frag} {mg : Str → Option Value} {base : Heap} (F : Df K mg "part" (top 8)) (c_fraction : Cal P w K mg base 1 "fraction" ["top", "bottom"] (sp_fraction K)) (f_sum : mg "sum" = none) (g_NOUGHT : mg "NOUGHT" = some (.ref (He.ga K "NOUGHT"))) (hn : NoughtOk K) : Cal P w K mg base 2 "part" ["row", "name"] (sp_part K) := by
  have sc := sc_part
  refine F.cal (k := 1) (t := t_part K) sc (fun _ _ _ _ _ _ us hl => match us, hl with | [_, _], _ => rfl) (sp_len fun _ => rfl) (run_part hn) fun f cdv A outer s H E hr => ?_
  exact (pss_cons (ps_setLc (i := 2) (own := [("guest", 3), ("weight", 4), ("can", 5)]) rfl sc.nd rfl rfl (sw_true rfl rfl rfl (by decide +kernel)) (pu_seq (pv 0)) (blkOk_by (by kernel_rfl)) (fun _ _ _ _ _ => (pg_tup rfl (pgs_cons (pg_name (i := 3) sc.nd rfl (by first | exact Or.inl rfl | exact Or.inr rfl)) (pgs_cons (pg_name (i := 4) sc.nd rfl (by first | exact Or.inl rfl | exact Or.inr rfl)) (pgs_cons (pg_name (i := 5) sc.nd rfl (by first | exact Or.inl rfl | exact Or.inr rfl)) pgs_nil))))) (fun _ _ _ _ _ => (pts_one (pt_cmpR (ou_eq hr) (pv 3) (pv 1) (nomark _)))) (fun _ _ _ _ _ => (pv 4))) (pss_one (ps_ret (pe_ifExp (pt_cmpR (ou_ne hr) (pv 2) (pe_lst pa_nil) (nomark _)) (pu_call c_fraction hr (by decide) (by rfl) (pa_cons (pu_ix hr (pv 2) pe_int (fun _ _ => rfl)) (pa_cons (pe_callB (cr_sum rfl) (by rfl) f_sum (by decide +kernel) (pa_cons (pe_lc (own := [("guest", 3), ("weight", 4), ("can", 5)]) rfl sc.nd (pu_seq (pv 0)) (blkOk_by (by kernel_rfl)) (fun _ _ _ _ _ => (pg_tup rfl (pgs_cons (pg_name (i := 3) sc.nd rfl (by first | exact Or.inl rfl | exact Or.inr rfl)) (pgs_cons (pg_name (i := 4) sc.nd rfl (by first | exact Or.inl rfl | exact Or.inr rfl)) (pgs_cons (pg_name (i := 5) sc.nd rfl (by first | exact Or.inl rfl | exact Or.inr rfl)) pgs_nil))))) (fun _ _ _ _ _ => pts_nil) (fun _ _ _ _ _ => (pv 4))) pa_nil)) pa_nil)) pass0) (pe_glob (by rfl) g_NOUGHT rfl)))))
theorem sc_due_row : FnScope ["rounds", "name", "found", "last", "row"] ["rounds", "name"] (defScope (top 9)) := ⟨rfl, rfl, rfl, by decide +kernel, rfl, by decide +kernel, by decide +kernel⟩
theorem c_due_row {P : Program} {w : World} {K : PySem.W.Frag} {mg : Str → Option Value} {base : Heap} (F : Df K mg "due_row" (top 9)) (c_plus : Cal P w K mg base 2 "plus" ["one", "other"] (sp_plus K)) (c_part : Cal P w K mg base 2 "part" ["row", "name"] (sp_part K)) (f_tuple : mg "tuple" = none) (g_NOUGHT : mg "NOUGHT" = some (.ref (He.ga K "NOUGHT"))) (hn : NoughtOk K) : Cal P w K mg base 3 "due_row" ["rounds", "name"] (sp_due_row K) := by
  have sc := sc_due_row
  refine F.cal (k := 2) (t := t_due_row K) sc (fun _ _ _ _ _ _ us hl => match us, hl with | [_, _], _ => rfl) (sp_len fun _ => rfl) (run_due_row hn) fun f cdv A outer s H E hr => ?_
  exact (pss_cons (ps_par rfl sc.nd rfl rfl (by decide) rfl rfl (pa_cons (pe_lst pa_nil) (pa_cons (pe_glob (by rfl) g_NOUGHT rfl) pa_nil)) (by rfl)) (pss_cons (ps_for PassesOwn.never rfl (pu_seq (pv 0)) (pg_name (i := 4) sc.nd rfl (by first | exact Or.inl rfl | exact Or.inr rfl)) (pss_cons (ps_set (i := 3) sc.nd rfl (by first | exact Or.inl rfl | exact Or.inr rfl) (pu_call c_plus hr (by decide) (by rfl) (pa_cons (pv 3) (pa_cons (pu_call c_part hr (by decide) (by rfl) (pa_cons (pv 4) (pa_cons (pv 1) pa_nil)) pass0) pa_nil)) pass0)) (pss_one (ps_expr (pe_bm PySem.F.plainAttrs_list PySem.F.slot_list_append PySem.F.type_list_append mt_append (pv 2) (pa_cons (pv 3) pa_nil)))))) (pss_one (ps_ret (pe_callTy cu_tup (by rfl) f_tuple (by decide +kernel) (pa_cons (pv 2) pa_nil))))))
theorem sc_who_can : FnScope ["row", "name", "weight", "can"] ["row"] (defScope (top 10)) := ⟨rfl, rfl, rfl, by decide +kernel, rfl, by decide +kernel, by decide +kernel⟩
theorem c_who_can {P : Program} {w : World} {K : PySem.W.Frag} {mg : Str → Option Value} {base : Heap} (F : Df K mg "who_can" (top 10)) : Cal P w K mg base 1 "who_can" ["row"] (sp_who_can K) := by
  have sc := sc_who_can
  refine F.cal (k := 0) (t := t_who_can K) sc (fun _ _ _ _ _ _ us hl => match us, hl with | [_], _ => rfl) (sp_len fun _ => rfl) run_who_can fun f cdv A outer s H E hr => ?_
  exact (pss_one (ps_ret (pe_lc (own := [("name", 1), ("weight", 2), ("can", 3)]) rfl sc.nd (pu_seq (pv 0)) (blkOk_by (by kernel_rfl)) (fun _ _ _ _ _ => (pg_tup rfl (pgs_cons (pg_name (i := 1) sc.nd rfl (by first | exact Or.inl rfl | exact Or.inr rfl)) (pgs_cons (pg_name (i := 2) sc.nd rfl (by first | exact Or.inl rfl | exact Or.inr rfl)) (pgs_cons (pg_name (i := 3) sc.nd rfl (by first | exact Or.inl rfl | exact Or.inr rfl)) pgs_nil))))) (fun _ _ _ _ _ => (pts_one (pt_cmpR (ou_eq hr) (pv 3) pe_int (nomark _)))) (fun _ _ _ _ _ => (pv 1)))))
theorem sc_is_open : FnScope ["rounds", "payers", "payment", "place", "name", "number"] ["rounds", "payers", "payment", "place"] (defScope (top 12)) := ⟨rfl, rfl, rfl, by decide +kernel, rfl, by decide +kernel, by decide +kernel⟩
theorem c_is_open {P : Program} {w : World} {K : PySem.W.Frag} {mg : Str → Option Value} {base : Heap} (F : Df K mg "is_open" (top 12)) (c_who_can : Cal P w K mg base 1 "who_can" ["row"] (sp_who_can K)) (f_len : mg "len" = none) : Cal P w K mg base 2 "is_open" ["rounds", "payers", "payment", "place"] (sp_is_open K) := by
  have sc := sc_is_open
  refine F.cal (k := 1) (t := t_is_open K) sc (fun _ _ _ _ _ _ us hl => match us, hl with | [_, _, _, _], _ => rfl) (sp_len fun _ => rfl) run_is_open fun f cdv A outer s H E hr => ?_
  exact (pss_cons (ps_asg (pv 2) (pg_tup rfl (pgs_cons (pg_name (i := 4) sc.nd rfl (by first | exact Or.inl rfl | exact Or.inr rfl)) (pgs_cons (pg_name (i := 5) sc.nd rfl (by first | exact Or.inl rfl | exact Or.inr rfl)) pgs_nil)))) (pss_cons (ps_if (pu_notinT hr (pv 4) (pu_call c_who_can hr (by decide) (by rfl) (pa_cons (pu_ix hr (pv 0) (pv 3) (fun _ _ => rfl)) pa_nil) pass0) (by rfl)) (pss_one (ps_ret pe_bl)) pss_nil) (pss_one (ps_ret (pe_or (pe_cmpR op_ge (pv 3) (pe_callB cu_len (by rfl) f_len (by decide +kernel) (pa_cons (pv 1) pa_nil)) (nomark _)) (pe_one (pe_and (pe_cmpR (ou_eq hr) (pu_ix hr (pv 1) (pv 3) (fun _ _ => rfl)) (pv 4) (nomark _)) (pe_one (pe_cmpR (ou_eq hr) (pu_count hr (pe_slice su_any (pv 1) po_none (po_some (pe_op ou_add (pv 3) pe_int))) (pa_cons (pv 4) pa_nil)) (pv 5) (nomark _))))))))))
theorem sc_reach : FnScope ["row", "number", "place", "before"] ["row", "number", "place"] (defScope (top 13)) := ⟨rfl, rfl, rfl, by decide +kernel, rfl, by decide +kernel, by decide +kernel⟩
theorem c_reach {P : Program} {w : World} {K : PySem.W.Frag} {mg : Str → Option Value} {base : Heap} (F : Df K mg "reach" (top 13)) (c_minus : Cal P w K mg base 2 "minus" ["one", "other"] (sp_minus K)) (c_whole : Cal P w K mg base 1 "whole" ["number"] (sp_whole K)) (g_NOUGHT : mg "NOUGHT" = some (.ref (He.ga K "NOUGHT"))) (hn : NoughtOk K) : Cal P w K mg base 3 "reach" ["row", "number", "place"] (sp_reach K) := by
  have sc := sc_reach
  refine F.cal (k := 2) (t := t_reach K) sc (fun _ _ _ _ _ _ us hl => match us, hl with | [_, _, _], _ => rfl) (sp_len fun _ => rfl) (run_reach hn) fun f cdv A outer s H E hr => ?_
  exact (pss_cons (ps_set (i := 3) sc.nd rfl (by first | exact Or.inl rfl | exact Or.inr rfl) (pe_ifExp (pt_cmpR op_gt (pv 2) pe_int (nomark _)) (pu_ix hr (pv 0) (pe_op op_sub (pv 2) pe_int) (fun _ _ => rfl)) (pe_glob (by rfl) g_NOUGHT rfl))) (pss_one (ps_ret (pu_tup (pa_cons (pu_call c_minus hr (by decide) (by rfl) (pa_cons (pv 3) (pa_cons (pu_call c_whole hr (by decide) (by rfl) (pa_cons (pe_op op_sub (pv 1) pe_int) pa_nil) pass0) pa_nil)) pass0) (pa_cons (pu_call c_minus hr (by decide) (by rfl) (pa_cons (pu_call c_whole hr (by decide) (by rfl) (pa_cons (pv 1) pa_nil) pass0) (pa_cons (pu_ix hr (pv 0) (pv 2) (fun _ _ => rfl)) pa_nil)) pass0) pa_nil))))))
theorem sc_fits : FnScope ["rounds", "payers", "bound", "payment", "place", "gap"] ["rounds", "payers", "bound", "payment", "place"] (defScope (top 14)) := ⟨rfl, rfl, rfl, by decide +kernel, rfl, by decide +kernel, by decide +kernel⟩
theorem c_fits {P : Program} {w : World} {K : PySem.W.Frag} {mg : Str → Option Value} {base : Heap} (F : Df K mg "fits" (top 14)) (c_reach : Cal P w K mg base 3 "reach" ["row", "number", "place"] (sp_reach K)) (c_due_row : Cal P w K mg base 3 "due_row" ["rounds", "name"] (sp_due_row K)) (c_is_less : Cal P w K mg base 1 "is_less" ["one", "other"] (sp_is_less K)) (c_is_open : Cal P w K mg base 2 "is_open" ["rounds", "payers", "payment", "place"] (sp_is_open K)) (f_all : mg "all" = none) : Cal P w K mg base 4 "fits" ["rounds", "payers", "bound", "payment", "place"] (sp_fits K) := by
  have sc := sc_fits
  refine F.cal (k := 3) (t := t_fits K) sc (fun _ _ _ _ _ _ us hl => match us, hl with | [_, _, _, _, _], _ => rfl) (sp_len fun _ => rfl) run_fits fun f cdv A outer s H E hr => ?_
  exact (pss_cons (ps_if (pt_not (pt_val (pu_call c_is_open hr (by decide) (by rfl) (pa_cons (pv 0) (pa_cons (pv 1) (pa_cons (pv 3) (pa_cons (pv 4) pa_nil)))) pass0))) (pss_one (ps_ret pe_bl)) pss_nil) (pss_one (ps_ret (pe_callB (cr_all rfl) (by rfl) f_all (by decide +kernel) (pa_cons (pe_lc (own := [("gap", 5)]) rfl sc.nd (pu_seq (pu_call c_reach hr (by decide) (by rfl) (pa_cons (pu_call c_due_row hr (by decide) (by rfl) (pa_cons (pv 0) (pa_cons (pu_ix hr (pv 3) pe_int (fun _ _ => rfl)) pa_nil)) pass0) (pa_cons (pu_ix hr (pv 3) pe_int (fun _ _ => rfl)) (pa_cons (pv 4) pa_nil))) pass0)) (blkOk_by (by kernel_rfl)) (fun _ _ _ _ _ => (pg_name (i := 5) sc.nd rfl (by first | exact Or.inl rfl | exact Or.inr rfl))) (fun _ _ _ _ _ => pts_nil) (fun _ _ _ _ _ => (pu_call c_is_less hr (by decide) (by rfl) (pa_cons (pv 5) (pa_cons (pv 2) pa_nil)) pass0))) pa_nil)))))
theorem sc_is_due : FnScope ["rounds", "bound", "payment", "last"] ["rounds", "bound", "payment"] (defScope (top 15)) := ⟨rfl, rfl, rfl, by decide +kernel, rfl, by decide +kernel, by decide +kernel⟩
theorem c_is_due {P : Program} {w : World} {K : PySem.W.Frag} {mg : Str → Option Value} {base : Heap} (F : Df K mg "is_due" (top 15)) (c_is_less : Cal P w K mg base 1 "is_less" ["one", "other"] (sp_is_less K)) (c_plus : Cal P w K mg base 2 "plus" ["one", "other"] (sp_plus K)) (c_whole : Cal P w K mg base 1 "whole" ["number"] (sp_whole K)) (c_due_row : Cal P w K mg base 3 "due_row" ["rounds", "name"] (sp_due_row K)) : Cal P w K mg base 4 "is_due" ["rounds", "bound", "payment"] (sp_is_due K) := by
  have sc := sc_is_due
  refine F.cal (k := 3) (t := t_is_due K) sc (fun _ _ _ _ _ _ us hl => match us, hl with | [_, _, _], _ => rfl) (sp_len fun _ => rfl) run_is_due fun f cdv A outer s H E hr => ?_
  exact (pss_cons (ps_set (i := 3) sc.nd rfl (by first | exact Or.inl rfl | exact Or.inr rfl) (pu_ix hr (pu_call c_due_row hr (by decide) (by rfl) (pa_cons (pv 0) (pa_cons (pu_ix hr (pv 2) pe_int (fun _ _ => rfl)) pa_nil)) pass0) (pe_un un_neg pe_int) (fun _ _ => rfl))) (pss_one (ps_ret (pe_not (pu_call c_is_less hr (by decide) (by rfl) (pa_cons (pv 3) (pa_cons (pu_call c_plus hr (by decide) (by rfl) (pa_cons (pu_call c_whole hr (by decide) (by rfl) (pa_cons (pe_op op_sub (pu_ix hr (pv 2) pe_int (fun _ _ => rfl)) pe_int) pa_nil) pass0) (pa_cons (pv 1) pa_nil)) pass0) pa_nil)) pass0)))))
theorem sc_law_draw : FnScope ["tape", "many", "prime", "cell", "found"] ["tape", "many"] (defScope (top 17)) := ⟨rfl, rfl, rfl, by decide +kernel, rfl, by decide +kernel, by decide +kernel⟩
theorem c_law_draw {P : Program} {w : World} {K : PySem.W.Frag} {mg : Str → Option Value} {base : Heap} (F : Df K mg "_law_draw" (top 17)) (f_len : mg "len" = none) : Cal P w K mg base 1 "_law_draw" ["tape", "many"] (sp_law_draw K) := by
  have sc := sc_law_draw
  refine F.cal (k := 0) (t := t_law_draw K) sc (fun _ _ _ _ _ _ us hl => match us, hl with | [_, _], _ => rfl) (sp_len fun _ => rfl) run_law_draw fun f cdv A outer s H E hr => ?_
  exact (pss_cons (ps_set (i := 2) sc.nd rfl (by first | exact Or.inl rfl | exact Or.inr rfl) pe_int) (pss_cons (ps_if (pt_cmpR (ou_lt hr) (pu_ix hr (pv 0) pe_int (fun _ _ => rfl)) (pv 1) (nomark _)) (pss_cons (ps_set (i := 3) sc.nd rfl (by first | exact Or.inl rfl | exact Or.inr rfl) pe_int) (pss_cons (ps_if (pt_cmpR op_gt (pe_callB cu_len (by rfl) f_len (by decide +kernel) (pa_cons (pu_ix hr (pv 0) pe_int (fun _ _ => rfl)) pa_nil)) pe_int (nomark _)) (pss_one (ps_set (i := 3) sc.nd rfl (by first | exact Or.inl rfl | exact Or.inr rfl) (pu_ix hr (pu_ix hr (pv 0) pe_int (fun _ _ => rfl)) (pe_op op_mod (pu_ix hr (pv 0) pe_int (fun _ _ => rfl)) (pe_callB cu_len (by rfl) f_len (by decide +kernel) (pa_cons (pu_ix hr (pv 0) pe_int (fun _ _ => rfl)) pa_nil))) (fun _ _ => rfl)))) pss_nil) (pss_cons (ps_if (PW.pt (pw_or (pt_cmpR op_ge (pu_ix hr (pv 0) pe_int (fun _ _ => rfl)) (pe_callB cu_len (by rfl) f_len (by decide +kernel) (pa_cons (pu_ix hr (pv 0) pe_int (fun _ _ => rfl)) pa_nil)) (nomark _)) (pw_or1 (pt_cmpR (ou_lt hr) (pv 3) (pe_op op_pow pe_int pe_int) (nomark _))))) (pss_cons (ps_set (i := 3) sc.nd rfl (by first | exact Or.inl rfl | exact Or.inr rfl) (pe_op op_mod (pe_op ou_add (pv 3) (pe_op ou_mul pe_int (pu_ix hr (pv 0) pe_int (fun _ _ => rfl)))) (pv 2))) (pss_cons (ps_set (i := 3) sc.nd rfl (by first | exact Or.inl rfl | exact Or.inr rfl) (pe_op op_mod (pe_op ou_add (pe_op ou_add (pe_op ou_mul (pv 3) (pv 3)) (pe_op ou_mul pe_int (pv 3))) pe_int) (pv 2))) (pss_one (ps_set (i := 3) sc.nd rfl (by first | exact Or.inl rfl | exact Or.inr rfl) (pe_op op_mod (pe_op ou_add (pe_op ou_mul (pv 3) (pv 3)) pe_int) (pv 2)))))) pss_nil) (pss_cons (psor (ps_asg (pe_op ou_add (pu_ix hr (pv 0) pe_int (fun _ _ => rfl)) pe_int) (pg_sub (pv 0) pe_int set_list)) (ps_dput (hu_of hr) (pv 0) pe_int (pe_op ou_add (pu_ix hr (pv 0) pe_int (fun _ _ => rfl)) pe_int) rfl)) (pss_one (psor (ps_asg (pv 3) (pg_sub (pv 0) pe_int set_list)) (ps_dput (hu_of hr) (pv 0) pe_int (pv 3) rfl))))))) pss_nil) (pss_cons (ps_set (i := 4) sc.nd rfl (by first | exact Or.inl rfl | exact Or.inr rfl) (pe_op op_mod (pu_ix hr (pv 0) pe_int (fun _ _ => rfl)) (pv 1))) (pss_cons (psor (ps_asg (pe_op op_fdivW (pu_ix hr (pv 0) pe_int (fun _ _ => rfl)) (pv 1)) (pg_sub (pv 0) pe_int set_list)) (ps_dput (hu_of hr) (pv 0) pe_int (pe_op op_fdivW (pu_ix hr (pv 0) pe_int (fun _ _ => rfl)) (pv 1)) rfl)) (pss_one (ps_ret (pv 4)))))))
theorem sc_law_like : FnScope ["one", "two", "k"] ["one", "two"] (defScope (top 18)) := ⟨rfl, rfl, rfl, by decide +kernel, rfl, by decide +kernel, by decide +kernel⟩
theorem s_law_like {P : Program} {w : World} {K : PySem.W.Frag} {mg : Str → Option Value} {base : Heap} {sp spr_law_like : Sp} {k jr_law_like : Nat} (F : Df K mg "_law_like" (top 18)) (f_isinstance : mg "isinstance" = none) (f_bool : mg "bool" = none) (f_tuple : mg "tuple" = none) (f_list : mg "list" = none) (f_len : mg "len" = none) (f_range : mg "range" = none) (hk0 : 0 ≤ k) (hlv_law_like : jr_law_like ≤ k) (c_law_like : Cal P w K mg base jr_law_like "_law_like" ["one", "two"] spr_law_like) (len : ∀ vs H Q E, sp vs H Q E → vs.length = 2) (run : ∀ vs H Q E, sp vs H Q E → t_law_like K spr_law_like { nx := fun _ H' => Q .non H', rt := Q } (L2.start ["one", "two", "k"] vs) H) : Cal P w K mg base (k + 1) "_law_like" ["one", "two"] sp := by
  have sc := sc_law_like
  refine F.cal (k := k) sc (fun _ _ _ _ _ _ us hl => match us, hl with | [_, _], _ => rfl) len run fun f cdv A outer s H E hr => ?_
  exact (pss_cons (ps_if (pt_val (pe_callB cu_isi (by rfl) f_isinstance (by decide +kernel) (pa_cons (pv 0) (pa_cons (pu_tup (pa_cons (pe_bltn (by rfl) f_list (by rfl) rfl) (pa_cons (pe_bltn (by rfl) f_tuple (by rfl) rfl) pa_nil))) pa_nil)))) (pss_cons (ps_if (PW.pt (pw_or (pt_cmpR (ou_ne hr) (pe_callB cu_isi (by rfl) f_isinstance (by decide +kernel) (pa_cons (pv 0) (pa_cons (pe_bltn (by rfl) f_list (by rfl) rfl) pa_nil))) (pe_callB cu_isi (by rfl) f_isinstance (by decide +kernel) (pa_cons (pv 1) (pa_cons (pe_bltn (by rfl) f_list (by rfl) rfl) pa_nil))) (nomark _)) (pw_or1 (pt_cmpR (ou_ne hr) (pe_callB cu_isi (by rfl) f_isinstance (by decide +kernel) (pa_cons (pv 0) (pa_cons (pe_bltn (by rfl) f_tuple (by rfl) rfl) pa_nil))) (pe_callB cu_isi (by rfl) f_isinstance (by decide +kernel) (pa_cons (pv 1) (pa_cons (pe_bltn (by rfl) f_tuple (by rfl) rfl) pa_nil))) (nomark _))))) (pss_one (ps_ret pe_bl)) pss_nil) (pss_cons (ps_if (pt_cmpR (ou_ne hr) (pe_callB cu_len (by rfl) f_len (by decide +kernel) (pa_cons (pv 0) pa_nil)) (pe_callB cu_len (by rfl) f_len (by decide +kernel) (pa_cons (pv 1) pa_nil)) (nomark _)) (pss_one (ps_ret pe_bl)) pss_nil) (pss_one (ps_ret (pe_cmpR (ou_eq hr) (pe_lc (own := [("k", 2)]) rfl sc.nd (pi_range1 (by rfl) f_range (pa_cons (pe_callB cu_len (by rfl) f_len (by decide +kernel) (pa_cons (pv 0) pa_nil)) pa_nil)) (blkOk_by (by kernel_rfl)) (fun _ _ _ _ _ => (pg_name (i := 2) sc.nd rfl (by first | exact Or.inl rfl | exact Or.inr rfl))) (fun _ _ _ _ _ => (pts_one (pt_not (pt_val (pu_call c_law_like hr hlv_law_like (by rfl) (pa_cons (pu_ix hr (pv 0) (pv 2) (fun _ _ => rfl)) (pa_cons (pu_ix hr (pv 1) (pv 2) (fun _ _ => rfl)) pa_nil)) pass0))))) (fun _ _ _ _ _ => (pv 2))) (pe_lst pa_nil) (nomark _)))))) pss_nil) (pss_cons (ps_if (pt_val (pe_callB cu_isi (by rfl) f_isinstance (by decide +kernel) (pa_cons (pv 1) (pa_cons (pu_tup (pa_cons (pe_bltn (by rfl) f_list (by rfl) rfl) (pa_cons (pe_bltn (by rfl) f_tuple (by rfl) rfl) pa_nil))) pa_nil)))) (pss_one (ps_ret pe_bl)) pss_nil) (pss_one (ps_ret (pe_and (pe_cmpR (ou_eq hr) (pe_callB cu_isi (by rfl) f_isinstance (by decide +kernel) (pa_cons (pv 0) (pa_cons (pe_bltn (by rfl) f_bool (by rfl) rfl) pa_nil))) (pe_callB cu_isi (by rfl) f_isinstance (by decide +kernel) (pa_cons (pv 1) (pa_cons (pe_bltn (by rfl) f_bool (by rfl) rfl) pa_nil))) (nomark _)) (pe_one (pe_cmpR (ou_eq hr) (pv 0) (pv 1) (nomark _))))))))
theorem c_law_likeN {P : Program} {w : World} {K : PySem.W.Frag} {mg : Str → Option Value} {base : Heap} (F : Df K mg "_law_like" (top 18)) (f_isinstance : mg "isinstance" = none) (f_bool : mg "bool" = none) (f_tuple : mg "tuple" = none) (f_list : mg "list" = none) (f_len : mg "len" = none) (f_range : mg "range" = none) : ∀ n, Cal P w K mg base (n + 1) "_law_like" ["one", "two"] (sp_law_like K n)
  | 0 => s_law_like F f_isinstance f_bool f_tuple f_list f_len f_range (Nat.zero_le 0) (Nat.zero_le 0) (F.calF sc_law_like (fun _ _ _ _ _ _ us hl => match us, hl with | [_, _], _ => rfl)) (sp_len fun _ => rfl) (run_law_like0 _)
  | n + 1 => s_law_like F f_isinstance f_bool f_tuple f_list f_len f_range (Nat.zero_le _) (Nat.le_refl _) (c_law_likeN F f_isinstance f_bool f_tuple f_list f_len f_range n) (sp_len fun _ => rfl) (run_law_like n)
theorem c_law_like {P : Program} {w : World} {K : PySem.W.Frag} {mg : Str → Option Value} {base : Heap} (F : Df K mg "_law_like" (top 18)) (f_isinstance : mg "isinstance" = none) (f_bool : mg "bool" = none) (f_tuple : mg "tuple" = none) (f_list : mg "list" = none) (f_len : mg "len" = none) (f_range : mg "range" = none) : Cal P w K mg base 9 "_law_like" ["one", "two"] (sp_law_like K 7) := (c_law_likeN F f_isinstance f_bool f_tuple f_list f_len f_range 7).mono (by decide)
theorem sc_law_any_order : FnScope ["tape", "many", "found", "k"] ["tape", "many"] (defScope (top 19)) := ⟨rfl, rfl, rfl, by decide +kernel, rfl, by decide +kernel, by decide +kernel⟩
theorem c_law_any_order {P : Program} {w : World} {K : PySem.W.Frag} {mg : Str → Option Value} {base : Heap} (F : Df K mg "_law_any_order" (top 19)) (c_law_draw : Cal P w K mg base 1 "_law_draw" ["tape", "many"] (sp_law_draw K)) (f_tuple : mg "tuple" = none) (f_range : mg "range" = none) : Cal P w K mg base 2 "_law_any_order" ["tape", "many"] (sp_law_any_order K) := by
  have sc := sc_law_any_order
  refine F.cal (k := 1) (t := t_law_any_order K) sc (fun _ _ _ _ _ _ us hl => match us, hl with | [_, _], _ => rfl) (sp_len fun _ => rfl) run_law_any_order fun f cdv A outer s H E hr => ?_
  exact (pss_cons (ps_set (i := 2) sc.nd rfl (by first | exact Or.inl rfl | exact Or.inr rfl) (pe_lst pa_nil)) (pss_cons (ps_for PassesOwn.never rfl (pi_range1 (by rfl) f_range (pa_cons (pv 1) pa_nil)) (pg_name (i := 3) sc.nd rfl (by first | exact Or.inl rfl | exact Or.inr rfl)) (pss_one (ps_expr (pe_bm PySem.F.plainAttrs_list PySem.F.slot_list_insert PySem.F.type_list_insert mt_insert (pv 2) (pa_cons (pu_call c_law_draw hr (by decide) (by rfl) (pa_cons (pv 0) (pa_cons (pe_op ou_add (pv 3) pe_int) pa_nil)) pass0) (pa_cons (pv 3) pa_nil)))))) (pss_one (ps_ret (pe_callTy cu_tup (by rfl) f_tuple (by decide +kernel) (pa_cons (pv 2) pa_nil))))))
theorem sc_law_common : FnScope ["one", "other"] ["one", "other"] (defScope (top 20)) := ⟨rfl, rfl, rfl, by decide +kernel, rfl, by decide +kernel, by decide +kernel⟩
theorem c_law_common {P : Program} {w : World} {K : PySem.W.Frag} {mg : Str → Option Value} {base : Heap} (F : Df K mg "_law_common" (top 20)) : Cal P w K mg base 1 "_law_common" ["one", "other"] (sp_law_common K) := by
  have sc := sc_law_common
  refine F.cal (k := 0) (t := t_law_common K) sc (fun _ _ _ _ _ _ us hl => match us, hl with | [_, _], _ => rfl) (sp_len fun _ => rfl) run_law_common fun f cdv A outer s H E hr => ?_
  exact (pss_cons (ps_while PassesOwn.never (pt_cmpR (ou_ne hr) (pv 0) pe_int (nomark _)) (pss_one (ps_par rfl sc.nd rfl rfl (by decide) rfl rfl (pa_cons (pe_op op_mod (pv 1) (pv 0)) (pa_cons (pv 0) pa_nil)) (by rfl)))) (pss_one (ps_ret (pv 1))))
theorem sc_law_frac : FnScope ["top", "bottom", "share"] ["top", "bottom"] (defScope (top 21)) := ⟨rfl, rfl, rfl, by decide +kernel, rfl, by decide +kernel, by decide +kernel⟩
theorem c_law_frac {P : Program} {w : World} {K : PySem.W.Frag} {mg : Str → Option Value} {base : Heap} (F : Df K mg "_law_frac" (top 21)) (c_law_common : Cal P w K mg base 1 "_law_common" ["one", "other"] (sp_law_common K)) (f_abs : mg "abs" = none) : Cal P w K mg base 2 "_law_frac" ["top", "bottom"] (sp_law_frac K) := by
  have sc := sc_law_frac
  refine F.cal (k := 1) (t := t_law_frac K) sc (fun _ _ _ _ _ _ us hl => match us, hl with | [_, _], _ => rfl) (sp_len fun _ => rfl) run_law_frac fun f cdv A outer s H E hr => ?_
  exact (pss_cons (ps_set (i := 2) sc.nd rfl (by first | exact Or.inl rfl | exact Or.inr rfl) (pu_call c_law_common hr (by decide) (by rfl) (pa_cons (pe_callB call_abs (by rfl) f_abs (by decide +kernel) (pa_cons (pv 0) pa_nil)) (pa_cons (pv 1) pa_nil)) pass0)) (pss_one (ps_ret (pu_tup (pa_cons (pe_op op_fdivW (pv 0) (pv 2)) (pa_cons (pe_op op_fdivW (pv 1) (pv 2)) pa_nil))))))
theorem sc_law_sum : FnScope ["one", "other"] ["one", "other"] (defScope (top 22)) := ⟨rfl, rfl, rfl, by decide +kernel, rfl, by decide +kernel, by decide +kernel⟩
theorem c_law_sum {P : Program} {w : World} {K : PySem.W.Frag} {mg : Str → Option Value} {base : Heap} (F : Df K mg "_law_sum" (top 22)) (c_law_frac : Cal P w K mg base 2 "_law_frac" ["top", "bottom"] (sp_law_frac K)) : Cal P w K mg base 3 "_law_sum" ["one", "other"] (sp_law_sum K) := by
  have sc := sc_law_sum
  refine F.cal (k := 2) (t := t_law_sum K) sc (fun _ _ _ _ _ _ us hl => match us, hl with | [_, _], _ => rfl) (sp_len fun _ => rfl) run_law_sum fun f cdv A outer s H E hr => ?_
  exact (pss_one (ps_ret (pu_call c_law_frac hr (by decide) (by rfl) (pa_cons (pe_op ou_add (pe_op ou_mul (pu_ix hr (pv 0) pe_int (fun _ _ => rfl)) (pu_ix hr (pv 1) pe_int (fun _ _ => rfl))) (pe_op ou_mul (pu_ix hr (pv 1) pe_int (fun _ _ => rfl)) (pu_ix hr (pv 0) pe_int (fun _ _ => rfl)))) (pa_cons (pe_op ou_mul (pu_ix hr (pv 0) pe_int (fun _ _ => rfl)) (pu_ix hr (pv 1) pe_int (fun _ _ => rfl))) pa_nil)) pass0)))
theorem sc_law_less : FnScope ["one", "other"] ["one", "other"] (defScope (top 23)) := ⟨rfl, rfl, rfl, by decide +kernel, rfl, by decide +kernel, by decide +kernel⟩
theorem c_law_less {P : Program} {w : World} {K : PySem.W.Frag} {mg : Str → Option Value} {base : Heap} (F : Df K mg "_law_less" (top 23)) (c_law_frac : Cal P w K mg base 2 "_law_frac" ["top", "bottom"] (sp_law_frac K)) : Cal P w K mg base 3 "_law_less" ["one", "other"] (sp_law_less K) := by
  have sc := sc_law_less
  refine F.cal (k := 2) (t := t_law_less K) sc (fun _ _ _ _ _ _ us hl => match us, hl with | [_, _], _ => rfl) (sp_len fun _ => rfl) run_law_less fun f cdv A outer s H E hr => ?_
  exact (pss_one (ps_ret (pu_call c_law_frac hr (by decide) (by rfl) (pa_cons (pe_op op_sub (pe_op ou_mul (pu_ix hr (pv 0) pe_int (fun _ _ => rfl)) (pu_ix hr (pv 1) pe_int (fun _ _ => rfl))) (pe_op ou_mul (pu_ix hr (pv 1) pe_int (fun _ _ => rfl)) (pu_ix hr (pv 0) pe_int (fun _ _ => rfl)))) (pa_cons (pe_op ou_mul (pu_ix hr (pv 0) pe_int (fun _ _ => rfl)) (pu_ix hr (pv 1) pe_int (fun _ _ => rfl))) pa_nil)) pass0)))
theorem sc_law_below : FnScope ["one", "other"] ["one", "other"] (defScope (top 24)) := ⟨rfl, rfl, rfl, by decide +kernel, rfl, by decide +kernel, by decide +kernel⟩
theorem c_law_below {P : Program} {w : World} {K : PySem.W.Frag} {mg : Str → Option Value} {base : Heap} (F : Df K mg "_law_below" (top 24)) : Cal P w K mg base 1 "_law_below" ["one", "other"] (sp_law_below K) := by
  have sc := sc_law_below
  refine F.cal (k := 0) (t := t_law_below K) sc (fun _ _ _ _ _ _ us hl => match us, hl with | [_, _], _ => rfl) (sp_len fun _ => rfl) run_law_below fun f cdv A outer s H E hr => ?_
  exact (pss_one (ps_ret (pe_cmpR (ou_lt hr) (pe_op ou_mul (pu_ix hr (pv 0) pe_int (fun _ _ => rfl)) (pu_ix hr (pv 1) pe_int (fun _ _ => rfl))) (pe_op ou_mul (pu_ix hr (pv 1) pe_int (fun _ _ => rfl)) (pu_ix hr (pv 0) pe_int (fun _ _ => rfl))) (nomark _))))
theorem sc_law_round : FnScope ["tape", "guests", "all_can", "many", "some", "at", "sole", "top", "found", "name", "can"] ["tape", "guests", "all_can"] (defScope (top 25)) := ⟨rfl, rfl, rfl, by decide +kernel, rfl, by decide +kernel, by decide +kernel⟩
theorem c_law_round {P : Program} {w : World} {K : PySem.W.Frag} {mg : Str → Option Value} {base : Heap} (F : Df K mg "_law_round" (top 25)) (c_law_draw : Cal P w K mg base 1 "_law_draw" ["tape", "many"] (sp_law_draw K)) (c_law_any_order : Cal P w K mg base 2 "_law_any_order" ["tape", "many"] (sp_law_any_order K)) (f_tuple : mg "tuple" = none) (f_enumerate : mg "enumerate" = none) (f_int : mg "int" = none) (f_len : mg "len" = none) (f_sorted : mg "sorted" = none) (f_min : mg "min" = none) : Cal P w K mg base 3 "_law_round" ["tape", "guests", "all_can"] (sp_law_round K) := by
  have sc := sc_law_round
  refine F.cal (k := 2) (t := t_law_round K) sc (fun _ _ _ _ _ _ us hl => match us, hl with | [_, _, _], _ => rfl) (sp_len fun _ => rfl) run_law_round fun f cdv A outer s H E hr => ?_
  exact (pss_cons (ps_set (i := 3) sc.nd rfl (by first | exact Or.inl rfl | exact Or.inr rfl) (pe_op ou_add pe_int (pu_call c_law_draw hr (by decide) (by rfl) (pa_cons (pv 0) (pa_cons (pe_callB (call_min2 rfl) (by rfl) f_min (by decide +kernel) (pa_cons pe_int (pa_cons (pe_callB cu_len (by rfl) f_len (by decide +kernel) (pa_cons (pv 1) pa_nil)) pa_nil))) pa_nil)) pass0))) (pss_cons (ps_set (i := 4) sc.nd rfl (by first | exact Or.inl rfl | exact Or.inr rfl) (pe_callB (cu_sorted rfl) (by rfl) f_sorted (by decide +kernel) (pa_cons (pe_lc (own := [("at", 5)]) rfl sc.nd (pu_seq (pe_slice su_any (pu_call c_law_any_order hr (by decide) (by rfl) (pa_cons (pv 0) (pa_cons (pe_callB cu_len (by rfl) f_len (by decide +kernel) (pa_cons (pv 1) pa_nil)) pa_nil)) pass0) po_none (po_some (pv 3)))) (blkOk_by (by kernel_rfl)) (fun _ _ _ _ _ => (pg_name (i := 5) sc.nd rfl (by first | exact Or.inl rfl | exact Or.inr rfl))) (fun _ _ _ _ _ => pts_nil) (fun _ _ _ _ _ => (pu_ix hr (pv 1) (pv 5) (fun _ _ => rfl)))) pa_nil))) (pss_cons (ps_par rfl sc.nd rfl rfl (by decide) rfl rfl (pa_cons (pu_call c_law_draw hr (by decide) (by rfl) (pa_cons (pv 0) (pa_cons (pv 3) pa_nil)) pass0) (pa_cons (pu_ix hr (pe_lst (pa_cons pe_int (pa_cons pe_int (pa_cons pe_int pa_nil)))) (pu_call c_law_draw hr (by decide) (by rfl) (pa_cons (pv 0) (pa_cons pe_int pa_nil)) pass0) (fun _ _ => rfl)) pa_nil)) (by rfl)) (pss_cons (ps_set (i := 8) sc.nd rfl (by first | exact Or.inl rfl | exact Or.inr rfl) (pe_lst pa_nil)) (pss_cons (ps_for PassesOwn.never rfl (pu_enum (by rfl) f_enumerate (pa_cons (pv 4) pa_nil)) (pg_tup rfl (pgs_cons (pg_name (i := 5) sc.nd rfl (by first | exact Or.inl rfl | exact Or.inr rfl)) (pgs_cons (pg_name (i := 9) sc.nd rfl (by first | exact Or.inl rfl | exact Or.inr rfl)) pgs_nil))) (pss_cons (ps_set (i := 10) sc.nd rfl (by first | exact Or.inl rfl | exact Or.inr rfl) (pe_ifExp (PW.pt (pw_or (pt_val (pv 2)) (pw_or1 (pt_cmpR (ou_eq hr) (pv 5) (pv 6) (nomark _))))) pe_int (pe_callTy call_int1 (by rfl) f_int (by decide +kernel) (pa_cons (pe_cmpR op_gt (pu_call c_law_draw hr (by decide) (by rfl) (pa_cons (pv 0) (pa_cons pe_int pa_nil)) pass0) pe_int (nomark _)) pa_nil)))) (pss_one (ps_expr (pe_bm PySem.F.plainAttrs_list PySem.F.slot_list_append PySem.F.type_list_append mt_append (pv 8) (pa_cons (pu_tup (pa_cons (pv 9) (pa_cons (pe_op ou_add pe_int (pu_call c_law_draw hr (by decide) (by rfl) (pa_cons (pv 0) (pa_cons (pv 7) pa_nil)) pass0)) (pa_cons (pv 10) pa_nil)))) pa_nil)))))) (pss_one (ps_ret (pe_callTy cu_tup (by rfl) f_tuple (by decide +kernel) (pa_cons (pv 8) pa_nil)))))))))
theorem sc_law_rounds : FnScope ["tape", "most", "guests", "all_can", "k"] ["tape", "most", "guests", "all_can"] (defScope (top 26)) := ⟨rfl, rfl, rfl, by decide +kernel, rfl, by decide +kernel, by decide +kernel⟩
theorem c_law_rounds {P : Program} {w : World} {K : PySem.W.Frag} {mg : Str → Option Value} {base : Heap} (F : Df K mg "_law_rounds" (top 26)) (c_law_draw : Cal P w K mg base 1 "_law_draw" ["tape", "many"] (sp_law_draw K)) (c_law_round : Cal P w K mg base 3 "_law_round" ["tape", "guests", "all_can"] (sp_law_round K)) (f_range : mg "range" = none) (f_tuple : mg "tuple" = none) : Cal P w K mg base 4 "_law_rounds" ["tape", "most", "guests", "all_can"] (sp_law_rounds K) := by
  have sc := sc_law_rounds
  refine F.cal (k := 3) (t := t_law_rounds K) sc (fun _ _ _ _ _ _ us hl => match us, hl with | [_, _, _, _], _ => rfl) (sp_len fun _ => rfl) run_law_rounds fun f cdv A outer s H E hr => ?_
  exact (pss_one (ps_ret (pe_callTy cu_tup (by rfl) f_tuple (by decide +kernel) (pa_cons (pe_lc (own := [("k", 4)]) rfl sc.nd (pi_range1 (by rfl) f_range (pa_cons (pe_op ou_add pe_int (pu_call c_law_draw hr (by decide) (by rfl) (pa_cons (pv 0) (pa_cons (pv 1) pa_nil)) pass0)) pa_nil)) (blkOk_by (by kernel_rfl)) (fun _ _ _ _ _ => (pg_name (i := 4) sc.nd rfl (by first | exact Or.inl rfl | exact Or.inr rfl))) (fun _ _ _ _ _ => pts_nil) (fun _ _ _ _ _ => (pu_call c_law_round hr (by decide) (by rfl) (pa_cons (pv 0) (pa_cons (pv 2) (pa_cons (pv 3) pa_nil))) pass0))) pa_nil))))
theorem sc_law_can : FnScope ["row", "name", "weight", "can"] ["row"] (defScope (top 27)) := ⟨rfl, rfl, rfl, by decide +kernel, rfl, by decide +kernel, by decide +kernel⟩
theorem c_law_can {P : Program} {w : World} {K : PySem.W.Frag} {mg : Str → Option Value} {base : Heap} (F : Df K mg "_law_can" (top 27)) : Cal P w K mg base 1 "_law_can" ["row"] (sp_law_can K) := by
  have sc := sc_law_can
  refine F.cal (k := 0) (t := t_law_can K) sc (fun _ _ _ _ _ _ us hl => match us, hl with | [_], _ => rfl) (sp_len fun _ => rfl) run_law_can fun f cdv A outer s H E hr => ?_
  exact (pss_one (ps_ret (pe_lc (own := [("name", 1), ("weight", 2), ("can", 3)]) rfl sc.nd (pu_seq (pv 0)) (blkOk_by (by kernel_rfl)) (fun _ _ _ _ _ => (pg_tup rfl (pgs_cons (pg_name (i := 1) sc.nd rfl (by first | exact Or.inl rfl | exact Or.inr rfl)) (pgs_cons (pg_name (i := 2) sc.nd rfl (by first | exact Or.inl rfl | exact Or.inr rfl)) (pgs_cons (pg_name (i := 3) sc.nd rfl (by first | exact Or.inl rfl | exact Or.inr rfl)) pgs_nil))))) (fun _ _ _ _ _ => (pts_one (pt_cmpR (ou_eq hr) (pv 3) pe_int (nomark _)))) (fun _ _ _ _ _ => (pv 1)))))
theorem sc_law_payers : FnScope ["tape", "rounds", "most", "found", "row", "some"] ["tape", "rounds", "most"] (defScope (top 28)) := ⟨rfl, rfl, rfl, by decide +kernel, rfl, by decide +kernel, by decide +kernel⟩
theorem c_law_payers {P : Program} {w : World} {K : PySem.W.Frag} {mg : Str → Option Value} {base : Heap} (F : Df K mg "_law_payers" (top 28)) (c_law_draw : Cal P w K mg base 1 "_law_draw" ["tape", "many"] (sp_law_draw K)) (c_law_can : Cal P w K mg base 1 "_law_can" ["row"] (sp_law_can K)) (f_len : mg "len" = none) : Cal P w K mg base 2 "_law_payers" ["tape", "rounds", "most"] (sp_law_payers K) := by
  have sc := sc_law_payers
  refine F.cal (k := 1) (t := t_law_payers K) sc (fun _ _ _ _ _ _ us hl => match us, hl with | [_, _, _], _ => rfl) (sp_len fun _ => rfl) run_law_payers fun f cdv A outer s H E hr => ?_
  exact (pss_cons (ps_set (i := 3) sc.nd rfl (by first | exact Or.inl rfl | exact Or.inr rfl) (pu_tup pa_nil)) (pss_cons (ps_for PassesOwn.never rfl (pu_seq (pe_slice su_any (pv 1) po_none (po_some (pu_call c_law_draw hr (by decide) (by rfl) (pa_cons (pv 0) (pa_cons (pe_op ou_add (pv 2) pe_int) pa_nil)) pass0)))) (pg_name (i := 4) sc.nd rfl (by first | exact Or.inl rfl | exact Or.inr rfl)) (pss_cons (ps_set (i := 5) sc.nd rfl (by first | exact Or.inl rfl | exact Or.inr rfl) (pu_call c_law_can hr (by decide) (by rfl) (pa_cons (pv 4) pa_nil) pass0)) (pss_one (ps_set (i := 3) sc.nd rfl (by first | exact Or.inl rfl | exact Or.inr rfl) (pe_op ou_add (pv 3) (pu_tup (pa_cons (pu_ix hr (pv 5) (pu_call c_law_draw hr (by decide) (by rfl) (pa_cons (pv 0) (pa_cons (pe_callB cu_len (by rfl) f_len (by decide +kernel) (pa_cons (pv 5) pa_nil)) pa_nil)) pass0) (fun _ _ => rfl)) pa_nil))))))) (pss_one (ps_ret (pv 3)))))
theorem sc_law_names : FnScope ["rounds", "found", "row", "name", "weight", "can"] ["rounds"] (defScope (top 29)) := ⟨rfl, rfl, rfl, by decide +kernel, rfl, by decide +kernel, by decide +kernel⟩
theorem c_law_names {P : Program} {w : World} {K : PySem.W.Frag} {mg : Str → Option Value} {base : Heap} (F : Df K mg "_law_names" (top 29)) (f_sorted : mg "sorted" = none) : Cal P w K mg base 1 "_law_names" ["rounds"] (sp_law_names K) := by
  have sc := sc_law_names
  refine F.cal (k := 0) (t := t_law_names K) sc (fun _ _ _ _ _ _ us hl => match us, hl with | [_], _ => rfl) (sp_len fun _ => rfl) run_law_names fun f cdv A outer s H E hr => ?_
  exact (pss_cons (ps_set (i := 1) sc.nd rfl (by first | exact Or.inl rfl | exact Or.inr rfl) (por pe_dnewK pe_dnewT)) (pss_cons (ps_for PassesOwn.never rfl (pu_seq (pv 0)) (pg_name (i := 2) sc.nd rfl (by first | exact Or.inl rfl | exact Or.inr rfl)) (pss_one (ps_for PassesOwn.never rfl (pu_seq (pv 2)) (pg_tup rfl (pgs_cons (pg_name (i := 3) sc.nd rfl (by first | exact Or.inl rfl | exact Or.inr rfl)) (pgs_cons (pg_name (i := 4) sc.nd rfl (by first | exact Or.inl rfl | exact Or.inr rfl)) (pgs_cons (pg_name (i := 5) sc.nd rfl (by first | exact Or.inl rfl | exact Or.inr rfl)) pgs_nil)))) (pss_one (psor (ps_asg pe_bl (pg_sub (pv 1) (pv 3) set_list)) (ps_dput (hu_of hr) (pv 1) (pv 3) pe_bl rfl)))))) (pss_one (ps_ret (pe_callB (cu_sorted rfl) (by rfl) f_sorted (by decide +kernel) (pa_cons (pv 1) pa_nil))))))
theorem sc_law_dues : FnScope ["rounds", "found", "name", "last", "row_so", "row", "mine", "guest", "weight", "can"] ["rounds"] (defScope (top 30)) := ⟨rfl, rfl, rfl, by decide +kernel, rfl, by decide +kernel, by decide +kernel⟩
theorem c_law_dues {P : Program} {w : World} {K : PySem.W.Frag} {mg : Str → Option Value} {base : Heap} (F : Df K mg "_law_dues" (top 30)) (c_law_names : Cal P w K mg base 1 "_law_names" ["rounds"] (sp_law_names K)) (c_law_sum : Cal P w K mg base 3 "_law_sum" ["one", "other"] (sp_law_sum K)) (c_law_frac : Cal P w K mg base 2 "_law_frac" ["top", "bottom"] (sp_law_frac K)) (f_tuple : mg "tuple" = none) (f_sum : mg "sum" = none) : Cal P w K mg base 4 "_law_dues" ["rounds"] (sp_law_dues K) := by
  have sc := sc_law_dues
  refine F.cal (k := 3) (t := t_law_dues K) sc (fun _ _ _ _ _ _ us hl => match us, hl with | [_], _ => rfl) (sp_len fun _ => rfl) run_law_dues fun f cdv A outer s H E hr => ?_
  exact (pss_cons (ps_set (i := 1) sc.nd rfl (by first | exact Or.inl rfl | exact Or.inr rfl) (por pe_dnewK pe_dnewT)) (pss_cons (ps_for PassesOwn.never rfl (pu_seq (pu_call c_law_names hr (by decide) (by rfl) (pa_cons (pv 0) pa_nil) pass0)) (pg_name (i := 2) sc.nd rfl (by first | exact Or.inl rfl | exact Or.inr rfl)) (pss_cons (ps_par rfl sc.nd rfl rfl (by decide) rfl rfl (pa_cons (pu_tup (pa_cons pe_int (pa_cons pe_int pa_nil))) (pa_cons (pe_lst pa_nil) pa_nil)) (by rfl)) (pss_cons (ps_for PassesOwn.never rfl (pu_seq (pv 0)) (pg_name (i := 5) sc.nd rfl (by first | exact Or.inl rfl | exact Or.inr rfl)) (pss_cons (ps_set (i := 6) sc.nd rfl (by first | exact Or.inl rfl | exact Or.inr rfl) (pe_callB (cr_sum rfl) (by rfl) f_sum (by decide +kernel) (pa_cons (pe_lc (own := [("guest", 7), ("weight", 8), ("can", 9)]) rfl sc.nd (pu_seq (pv 5)) (blkOk_by (by kernel_rfl)) (fun _ _ _ _ _ => (pg_tup rfl (pgs_cons (pg_name (i := 7) sc.nd rfl (by first | exact Or.inl rfl | exact Or.inr rfl)) (pgs_cons (pg_name (i := 8) sc.nd rfl (by first | exact Or.inl rfl | exact Or.inr rfl)) (pgs_cons (pg_name (i := 9) sc.nd rfl (by first | exact Or.inl rfl | exact Or.inr rfl)) pgs_nil))))) (fun _ _ _ _ _ => (pts_one (pt_cmpR (ou_eq hr) (pv 7) (pv 2) (nomark _)))) (fun _ _ _ _ _ => (pv 8))) pa_nil))) (pss_cons (ps_set (i := 3) sc.nd rfl (by first | exact Or.inl rfl | exact Or.inr rfl) (pu_call c_law_sum hr (by decide) (by rfl) (pa_cons (pv 3) (pa_cons (pu_call c_law_frac hr (by decide) (by rfl) (pa_cons (pv 6) (pa_cons (pe_callB (cr_sum rfl) (by rfl) f_sum (by decide +kernel) (pa_cons (pe_lc (own := [("guest", 7), ("weight", 8), ("can", 9)]) rfl sc.nd (pu_seq (pv 5)) (blkOk_by (by kernel_rfl)) (fun _ _ _ _ _ => (pg_tup rfl (pgs_cons (pg_name (i := 7) sc.nd rfl (by first | exact Or.inl rfl | exact Or.inr rfl)) (pgs_cons (pg_name (i := 8) sc.nd rfl (by first | exact Or.inl rfl | exact Or.inr rfl)) (pgs_cons (pg_name (i := 9) sc.nd rfl (by first | exact Or.inl rfl | exact Or.inr rfl)) pgs_nil))))) (fun _ _ _ _ _ => pts_nil) (fun _ _ _ _ _ => (pv 8))) pa_nil)) pa_nil)) pass0) pa_nil)) pass0)) (pss_one (ps_expr (pe_bm PySem.F.plainAttrs_list PySem.F.slot_list_append PySem.F.type_list_append mt_append (pv 4) (pa_cons (pv 3) pa_nil))))))) (pss_one (psor (ps_asg (pe_callTy cu_tup (by rfl) f_tuple (by decide +kernel) (pa_cons (pv 4) pa_nil)) (pg_sub (pv 1) (pv 2) set_list)) (ps_dput (hu_of hr) (pv 1) (pv 2) (pe_callTy cu_tup (by rfl) f_tuple (by decide +kernel) (pa_cons (pv 4) pa_nil)) rfl)))))) (pss_one (ps_ret (pv 1)))))
theorem sc_law_gap : FnScope ["dues_so", "place", "counts", "found", "name", "count", "gap"] ["dues_so", "place", "counts"] (defScope (top 31)) := ⟨rfl, rfl, rfl, by decide +kernel, rfl, by decide +kernel, by decide +kernel⟩
theorem c_law_gap {P : Program} {w : World} {K : PySem.W.Frag} {mg : Str → Option Value} {base : Heap} (F : Df K mg "_law_gap" (top 31)) (c_law_below : Cal P w K mg base 1 "_law_below" ["one", "other"] (sp_law_below K)) (c_law_less : Cal P w K mg base 3 "_law_less" ["one", "other"] (sp_law_less K)) (f_sorted : mg "sorted" = none) (f_zip : mg "zip" = none) (f_abs : mg "abs" = none) : Cal P w K mg base 4 "_law_gap" ["dues_so", "place", "counts"] (sp_law_gap K) := by
  have sc := sc_law_gap
  refine F.cal (k := 3) (t := t_law_gap K) sc (fun _ _ _ _ _ _ us hl => match us, hl with | [_, _, _], _ => rfl) len_law_gap run_law_gap fun f cdv A outer s H E hr => ?_
  exact (pss_cons (ps_set (i := 3) sc.nd rfl (by first | exact Or.inl rfl | exact Or.inr rfl) (pu_tup (pa_cons pe_int (pa_cons pe_int pa_nil)))) (pss_cons (ps_for PassesOwn.never rfl (pu_zip (by rfl) f_zip (pa_cons (pe_callB (cu_sorted rfl) (by rfl) f_sorted (by decide +kernel) (pa_cons (pv 0) pa_nil)) (pa_cons (pv 2) pa_nil))) (pg_tup rfl (pgs_cons (pg_name (i := 4) sc.nd rfl (by first | exact Or.inl rfl | exact Or.inr rfl)) (pgs_cons (pg_name (i := 5) sc.nd rfl (by first | exact Or.inl rfl | exact Or.inr rfl)) pgs_nil))) (pss_cons (ps_set (i := 6) sc.nd rfl (by first | exact Or.inl rfl | exact Or.inr rfl) (pu_call c_law_less hr (by decide) (by rfl) (pa_cons (pu_ix hr (pu_ix hr (pv 0) (pv 4) (fun _ _ => rfl)) (pv 1) (fun _ _ => rfl)) (pa_cons (pu_tup (pa_cons (pv 5) (pa_cons pe_int pa_nil))) pa_nil)) pass0)) (pss_cons (ps_set (i := 6) sc.nd rfl (by first | exact Or.inl rfl | exact Or.inr rfl) (pu_tup (pa_cons (pe_callB call_abs (by rfl) f_abs (by decide +kernel) (pa_cons (pu_ix hr (pv 6) pe_int (fun _ _ => rfl)) pa_nil)) (pa_cons (pu_ix hr (pv 6) pe_int (fun _ _ => rfl)) pa_nil)))) (pss_one (ps_set (i := 3) sc.nd rfl (by first | exact Or.inl rfl | exact Or.inr rfl) (pe_ifExp (pt_val (pu_call c_law_below hr (by decide) (by rfl) (pa_cons (pv 3) (pa_cons (pv 6) pa_nil)) pass0)) (pv 6) (pv 3))))))) (pss_one (ps_ret (pv 3)))))
theorem sc_law_ways : FnScope ["rounds", "payers", "dues_so", "guests", "layers", "place", "row", "later", "counts", "name", "at", "nearest", "layer", "gaps_so", "there", "gap", "rest"] ["rounds", "payers"] (defScope (top 32)) := ⟨rfl, rfl, rfl, by decide +kernel, rfl, by decide +kernel, by decide +kernel⟩
theorem c_law_ways {P : Program} {w : World} {K : PySem.W.Frag} {mg : Str → Option Value} {base : Heap} (F : Df K mg "_law_ways" (top 32)) (c_law_can : Cal P w K mg base 1 "_law_can" ["row"] (sp_law_can K)) (c_law_below : Cal P w K mg base 1 "_law_below" ["one", "other"] (sp_law_below K)) (c_law_gap : Cal P w K mg base 4 "_law_gap" ["dues_so", "place", "counts"] (sp_law_gap K)) (c_law_names : Cal P w K mg base 1 "_law_names" ["rounds"] (sp_law_names K)) (c_law_dues : Cal P w K mg base 4 "_law_dues" ["rounds"] (sp_law_dues K)) (f_len : mg "len" = none) (f_range : mg "range" = none) (f_dict : mg "dict" = none) (f_enumerate : mg "enumerate" = none) : Cal P w K mg base 5 "_law_ways" ["rounds", "payers"] (sp_law_ways K) := by
  have sc := sc_law_ways
  refine F.cal (k := 4) (t := t_law_ways K) sc (fun _ _ _ _ _ _ us hl => match us, hl with | [_, _], _ => rfl) (sp_len fun _ => rfl) run_law_ways fun f cdv A outer s H E hr => ?_
  exact (pss_cons (ps_asg (pu_tup (pa_cons (pu_call c_law_dues hr (by decide) (by rfl) (pa_cons (pv 0) pa_nil) pass0) (pa_cons (pu_call c_law_names hr (by decide) (by rfl) (pa_cons (pv 0) pa_nil) pass0) pa_nil))) (pg_tup rfl (pgs_cons (pg_name (i := 2) sc.nd rfl (by first | exact Or.inl rfl | exact Or.inr rfl)) (pgs_cons (pg_name (i := 3) sc.nd rfl (by first | exact Or.inl rfl | exact Or.inr rfl)) pgs_nil)))) (pss_cons (ps_set (i := 4) sc.nd rfl (by first | exact Or.inl rfl | exact Or.inr rfl) (pe_lst (pa_cons (pe_fz (pe_disp1 hr (pe_op ou_mul (pu_tup (pa_cons pe_int pa_nil)) (pe_callB cu_len (by rfl) f_len (by decide +kernel) (pa_cons (pv 3) pa_nil))) pe_bl)) pa_nil))) (pss_cons (ps_for PassesOwn.never rfl (pu_enum (by rfl) f_enumerate (pa_cons (pv 0) pa_nil)) (pg_tup rfl (pgs_cons (pg_name (i := 5) sc.nd rfl (by first | exact Or.inl rfl | exact Or.inr rfl)) (pgs_cons (pg_name (i := 6) sc.nd rfl (by first | exact Or.inl rfl | exact Or.inr rfl)) pgs_nil))) (pss_cons (ps_set (i := 7) sc.nd rfl (by first | exact Or.inl rfl | exact Or.inr rfl) (por pe_dnewK pe_dnewT)) (pss_cons (ps_for PassesOwn.never rfl (pi_keys (pu_ix hr (pv 4) (pe_un un_neg pe_int) (fun _ _ => rfl))) (pg_name (i := 8) sc.nd rfl (by first | exact Or.inl rfl | exact Or.inr rfl)) (pss_one (ps_for PassesOwn.never rfl (pu_seq (pu_call c_law_can hr (by decide) (by rfl) (pa_cons (pv 6) pa_nil) pass0)) (pg_name (i := 9) sc.nd rfl (by first | exact Or.inl rfl | exact Or.inr rfl)) (pss_one (ps_if (PW.pt (pw_or (pt_cmpR op_ge (pv 5) (pe_callB cu_len (by rfl) f_len (by decide +kernel) (pa_cons (pv 1) pa_nil)) (nomark _)) (pw_or1 (pt_cmpR (ou_eq hr) (pu_ix hr (pv 1) (pv 5) (fun _ _ => rfl)) (pv 9) (nomark _))))) (pss_cons (ps_set (i := 10) sc.nd rfl (by first | exact Or.inl rfl | exact Or.inr rfl) (pe_bm PySem.F.plainAttrs_list PySem.F.slot_list_index PySem.F.type_list_index mt_index (pv 3) (pa_cons (pv 9) pa_nil))) (pss_one (psor (ps_asg pe_bl (pg_sub (pv 7) (pe_op ou_add (pe_op ou_add (pe_slice su_any (pv 8) po_none (po_some (pv 10))) (pu_tup (pa_cons (pe_op ou_add (pu_ix hr (pv 8) (pv 10) (fun _ _ => rfl)) pe_int) pa_nil))) (pe_slice su_any (pv 8) (po_some (pe_op ou_add (pv 10) pe_int)) po_none)) set_list)) (ps_dput (hu_of hr) (pv 7) (pe_op ou_add (pe_op ou_add (pe_slice su_any (pv 8) po_none (po_some (pv 10))) (pu_tup (pa_cons (pe_op ou_add (pu_ix hr (pv 8) (pv 10) (fun _ _ => rfl)) pe_int) pa_nil))) (pe_slice su_any (pv 8) (po_some (pe_op ou_add (pv 10) pe_int)) po_none)) pe_bl rfl)))) pss_nil))))) (pss_one (ps_fz (ps_expr (pe_bm PySem.F.plainAttrs_list PySem.F.slot_list_append PySem.F.type_list_append mt_append (pv 4) (pa_cons (pv 7) pa_nil)))))))) (pss_cons (ps_setLc (i := 11) (own := [("layer", 12)]) rfl sc.nd rfl rfl (sw_true rfl rfl rfl (by decide +kernel)) (pu_seq (pv 4)) (blkOk_by (by kernel_rfl)) (fun _ _ _ _ _ => (pg_name (i := 12) sc.nd rfl (by first | exact Or.inl rfl | exact Or.inr rfl))) (fun _ _ _ _ _ => pts_nil) (fun _ _ _ _ _ => (por pe_dnewK pe_dnewT))) (pss_cons (psor (ps_asg (pe_callTy (cu_dict hr rfl) (by rfl) f_dict (by decide +kernel) (pa_cons (pe_lc (own := [("counts", 8)]) rfl sc.nd (pi_keys (pu_ix hr (pv 4) (pe_un un_neg pe_int) (fun _ _ => rfl))) (blkOk_by (by kernel_rfl)) (fun _ _ _ _ _ => (pg_name (i := 8) sc.nd rfl (by first | exact Or.inl rfl | exact Or.inr rfl))) (fun _ _ _ _ _ => pts_nil) (fun _ _ _ _ _ => (pu_tup (pa_cons (pv 8) (pa_cons (pu_tup (pa_cons pe_int (pa_cons pe_int pa_nil))) pa_nil))))) pa_nil)) (pg_sub (pv 11) (pe_un un_neg pe_int) set_list)) (ps_dput (hu_of hr) (pv 11) (pe_un un_neg pe_int) (pe_callTy (cu_dict hr rfl) (by rfl) f_dict (by decide +kernel) (pa_cons (pe_lc (own := [("counts", 8)]) rfl sc.nd (pi_keys (pu_ix hr (pv 4) (pe_un un_neg pe_int) (fun _ _ => rfl))) (blkOk_by (by kernel_rfl)) (fun _ _ _ _ _ => (pg_name (i := 8) sc.nd rfl (by first | exact Or.inl rfl | exact Or.inr rfl))) (fun _ _ _ _ _ => pts_nil) (fun _ _ _ _ _ => (pu_tup (pa_cons (pv 8) (pa_cons (pu_tup (pa_cons pe_int (pa_cons pe_int pa_nil))) pa_nil))))) pa_nil)) rfl)) (pss_cons (ps_for PassesOwn.never rfl (pi_range3 (by rfl) f_range (pa_cons (pe_op op_sub (pe_callB cu_len (by rfl) f_len (by decide +kernel) (pa_cons (pv 0) pa_nil)) pe_int) (pa_cons (pe_un un_neg pe_int) (pa_cons (pe_un un_neg pe_int) pa_nil)))) (pg_name (i := 5) sc.nd rfl (by first | exact Or.inl rfl | exact Or.inr rfl)) (pss_cons (ps_set (i := 13) sc.nd rfl (by first | exact Or.inl rfl | exact Or.inr rfl) (pe_callTy (cu_dict hr rfl) (by rfl) f_dict (by decide +kernel) (pa_cons (pe_lc (own := [("counts", 8)]) rfl sc.nd (pi_keys (pu_ix hr (pv 4) (pe_op ou_add (pv 5) pe_int) (fun _ _ => rfl))) (blkOk_by (by kernel_rfl)) (fun _ _ _ _ _ => (pg_name (i := 8) sc.nd rfl (by first | exact Or.inl rfl | exact Or.inr rfl))) (fun _ _ _ _ _ => pts_nil) (fun _ _ _ _ _ => (pu_tup (pa_cons (pv 8) (pa_cons (pu_call c_law_gap hr (by decide) (by rfl) (pa_cons (pv 2) (pa_cons (pv 5) (pa_cons (pv 8) pa_nil))) pass0) pa_nil))))) pa_nil))) (pss_one (ps_for PassesOwn.never rfl (pi_keys (pu_ix hr (pv 4) (pv 5) (fun _ _ => rfl))) (pg_name (i := 8) sc.nd rfl (by first | exact Or.inl rfl | exact Or.inr rfl)) (pss_one (ps_for PassesOwn.never rfl (pu_seq (pu_call c_law_can hr (by decide) (by rfl) (pa_cons (pu_ix hr (pv 0) (pv 5) (fun _ _ => rfl)) pa_nil) pass0)) (pg_name (i := 9) sc.nd rfl (by first | exact Or.inl rfl | exact Or.inr rfl)) (pss_cons (ps_set (i := 10) sc.nd rfl (by first | exact Or.inl rfl | exact Or.inr rfl) (pe_bm PySem.F.plainAttrs_list PySem.F.slot_list_index PySem.F.type_list_index mt_index (pv 3) (pa_cons (pv 9) pa_nil))) (pss_cons (ps_set (i := 14) sc.nd rfl (by first | exact Or.inl rfl | exact Or.inr rfl) (pe_op ou_add (pe_op ou_add (pe_slice su_any (pv 8) po_none (po_some (pv 10))) (pu_tup (pa_cons (pe_op ou_add (pu_ix hr (pv 8) (pv 10) (fun _ _ => rfl)) pe_int) pa_nil))) (pe_slice su_any (pv 8) (po_some (pe_op ou_add (pv 10) pe_int)) po_none))) (pss_one (ps_if (pu_inT hr (pv 14) (pu_ix hr (pv 11) (pe_op ou_add (pv 5) pe_int) (fun _ _ => rfl)) (by rfl)) (pss_cons (ps_par rfl sc.nd rfl rfl (by decide) rfl rfl (pa_cons (pu_ix hr (pv 13) (pv 14) (fun _ _ => rfl)) (pa_cons (pu_ix hr (pu_ix hr (pv 11) (pe_op ou_add (pv 5) pe_int) (fun _ _ => rfl)) (pv 14) (fun _ _ => rfl)) pa_nil)) (by rfl)) (pss_cons (ps_set (i := 15) sc.nd rfl (by first | exact Or.inl rfl | exact Or.inr rfl) (pe_ifExp (pt_val (pu_call c_law_below hr (by decide) (by rfl) (pa_cons (pv 15) (pa_cons (pv 16) pa_nil)) pass0)) (pv 16) (pv 15))) (pss_one (ps_if (PW.pt (pw_or (pu_notinT hr (pv 8) (pu_ix hr (pv 11) (pv 5) (fun _ _ => rfl)) (by rfl)) (pw_or1 (pt_val (pu_call c_law_below hr (by decide) (by rfl) (pa_cons (pv 15) (pa_cons (pu_ix hr (pu_ix hr (pv 11) (pv 5) (fun _ _ => rfl)) (pv 8) (fun _ _ => rfl)) pa_nil)) pass0))))) (pss_one (psor (ps_asg (pv 15) (pg_sub (pu_ix hr (pv 11) (pv 5) (fun _ _ => rfl)) (pv 8) set_list)) (ps_dput (hu_of hr) (pu_ix hr (pv 11) (pv 5) (fun _ _ => rfl)) (pv 8) (pv 15) rfl))) pss_nil)))) pss_nil)))))))))) (pss_one (ps_ret (pv 11)))))))))
theorem sc_law_least : FnScope ["rounds", "payers"] ["rounds", "payers"] (defScope (top 33)) := ⟨rfl, rfl, rfl, by decide +kernel, rfl, by decide +kernel, by decide +kernel⟩
theorem c_law_least {P : Program} {w : World} {K : PySem.W.Frag} {mg : Str → Option Value} {base : Heap} (F : Df K mg "_law_least" (top 33)) (c_law_ways : Cal P w K mg base 5 "_law_ways" ["rounds", "payers"] (sp_law_ways K)) (c_law_names : Cal P w K mg base 1 "_law_names" ["rounds"] (sp_law_names K)) (f_len : mg "len" = none) : Cal P w K mg base 6 "_law_least" ["rounds", "payers"] (sp_law_least K) := by
  have sc := sc_law_least
  refine F.cal (k := 5) (t := t_law_least K) sc (fun _ _ _ _ _ _ us hl => match us, hl with | [_, _], _ => rfl) (sp_len fun _ => rfl) run_law_least fun f cdv A outer s H E hr => ?_
  exact (pss_one (ps_ret (pu_ix hr (pu_ix hr (pu_call c_law_ways hr (by decide) (by rfl) (pa_cons (pv 0) (pa_cons (pv 1) pa_nil)) pass0) pe_int (fun _ _ => rfl)) (pe_op ou_mul (pu_tup (pa_cons pe_int pa_nil)) (pe_callB cu_len (by rfl) f_len (by decide +kernel) (pa_cons (pu_call c_law_names hr (by decide) (by rfl) (pa_cons (pv 0) pa_nil) pass0) pa_nil))) (fun _ _ => rfl))))
theorem sc_law_unfair : FnScope ["rounds", "payers", "dues_so", "found", "place", "counts", "name", "gap"] ["rounds", "payers"] (defScope (top 34)) := ⟨rfl, rfl, rfl, by decide +kernel, rfl, by decide +kernel, by decide +kernel⟩
theorem c_law_unfair {P : Program} {w : World} {K : PySem.W.Frag} {mg : Str → Option Value} {base : Heap} (F : Df K mg "_law_unfair" (top 34)) (c_law_below : Cal P w K mg base 1 "_law_below" ["one", "other"] (sp_law_below K)) (c_law_gap : Cal P w K mg base 4 "_law_gap" ["dues_so", "place", "counts"] (sp_law_gap K)) (c_law_dues : Cal P w K mg base 4 "_law_dues" ["rounds"] (sp_law_dues K)) (f_len : mg "len" = none) (f_range : mg "range" = none) (f_sorted : mg "sorted" = none) : Cal P w K mg base 5 "_law_unfair" ["rounds", "payers"] (sp_law_unfair K) := by
  have sc := sc_law_unfair
  refine F.cal (k := 4) (t := t_law_unfair K) sc (fun _ _ _ _ _ _ us hl => match us, hl with | [_, _], _ => rfl) (sp_len fun _ => rfl) run_law_unfair fun f cdv A outer s H E hr => ?_
  exact (pss_cons (ps_par rfl sc.nd rfl rfl (by decide) rfl rfl (pa_cons (pu_call c_law_dues hr (by decide) (by rfl) (pa_cons (pv 0) pa_nil) pass0) (pa_cons (pu_tup (pa_cons pe_int (pa_cons pe_int pa_nil))) pa_nil)) (by rfl)) (pss_cons (ps_for PassesOwn.never rfl (pi_range1 (by rfl) f_range (pa_cons (pe_callB cu_len (by rfl) f_len (by decide +kernel) (pa_cons (pv 1) pa_nil)) pa_nil)) (pg_name (i := 4) sc.nd rfl (by first | exact Or.inl rfl | exact Or.inr rfl)) (pss_cons (ps_setLc (i := 5) (own := [("name", 6)]) rfl sc.nd rfl rfl (sw_true rfl rfl rfl (by decide +kernel)) (pu_seq (pe_callB (cu_sorted rfl) (by rfl) f_sorted (by decide +kernel) (pa_cons (pv 2) pa_nil))) (blkOk_by (by kernel_rfl)) (fun _ _ _ _ _ => (pg_name (i := 6) sc.nd rfl (by first | exact Or.inl rfl | exact Or.inr rfl))) (fun _ _ _ _ _ => pts_nil) (fun _ _ _ _ _ => (pu_count hr (pe_slice su_any (pv 1) po_none (po_some (pe_op ou_add (pv 4) pe_int))) (pa_cons (pv 6) pa_nil)))) (pss_cons (ps_set (i := 7) sc.nd rfl (by first | exact Or.inl rfl | exact Or.inr rfl) (pu_call c_law_gap hr (by decide) (by rfl) (pa_cons (pv 2) (pa_cons (pv 4) (pa_cons (pv 5) pa_nil))) pass0)) (pss_one (ps_set (i := 3) sc.nd rfl (by first | exact Or.inl rfl | exact Or.inr rfl) (pe_ifExp (pt_val (pu_call c_law_below hr (by decide) (by rfl) (pa_cons (pv 3) (pa_cons (pv 7) pa_nil)) pass0)) (pv 7) (pv 3))))))) (pss_one (ps_ret (pv 3)))))
theorem sc_law_fits : FnScope ["dues_so", "rounds", "payers", "bound", "payment", "place", "name", "number", "row", "before"] ["dues_so", "rounds", "payers", "bound", "payment", "place"] (defScope (top 35)) := ⟨rfl, rfl, rfl, by decide +kernel, rfl, by decide +kernel, by decide +kernel⟩
theorem c_law_fits {P : Program} {w : World} {K : PySem.W.Frag} {mg : Str → Option Value} {base : Heap} (F : Df K mg "_law_fits" (top 35)) (c_law_below : Cal P w K mg base 1 "_law_below" ["one", "other"] (sp_law_below K)) (c_law_sum : Cal P w K mg base 3 "_law_sum" ["one", "other"] (sp_law_sum K)) (c_law_can : Cal P w K mg base 1 "_law_can" ["row"] (sp_law_can K)) (f_len : mg "len" = none) : Cal P w K mg base 4 "_law_fits" ["dues_so", "rounds", "payers", "bound", "payment", "place"] (sp_law_fits K) := by
  have sc := sc_law_fits
  refine F.cal (k := 3) (t := t_law_fits K) sc (fun _ _ _ _ _ _ us hl => match us, hl with | [_, _, _, _, _, _], _ => rfl) (sp_len fun _ => rfl) run_law_fits fun f cdv A outer s H E hr => ?_
  exact (pss_cons (ps_asg (pv 4) (pg_tup rfl (pgs_cons (pg_name (i := 6) sc.nd rfl (by first | exact Or.inl rfl | exact Or.inr rfl)) (pgs_cons (pg_name (i := 7) sc.nd rfl (by first | exact Or.inl rfl | exact Or.inr rfl)) pgs_nil)))) (pss_cons (ps_set (i := 8) sc.nd rfl (by first | exact Or.inl rfl | exact Or.inr rfl) (pu_ix hr (pv 0) (pv 6) (fun _ _ => rfl))) (pss_cons (ps_set (i := 9) sc.nd rfl (by first | exact Or.inl rfl | exact Or.inr rfl) (pe_ifExp (pt_cmpR op_gt (pv 5) pe_int (nomark _)) (pu_ix hr (pv 8) (pe_op op_sub (pv 5) pe_int) (fun _ _ => rfl)) (pu_tup (pa_cons pe_int (pa_cons pe_int pa_nil))))) (pss_cons (ps_if (PW.pt (pw_or (pu_notinT hr (pv 6) (pu_call c_law_can hr (by decide) (by rfl) (pa_cons (pu_ix hr (pv 1) (pv 5) (fun _ _ => rfl)) pa_nil) pass0) (by rfl)) (pw_or1 (pt_not (pt_val (pu_call c_law_below hr (by decide) (by rfl) (pa_cons (pv 9) (pa_cons (pu_call c_law_sum hr (by decide) (by rfl) (pa_cons (pu_tup (pa_cons (pe_op op_sub (pv 7) pe_int) (pa_cons pe_int pa_nil))) (pa_cons (pv 3) pa_nil)) pass0) pa_nil)) pass0)))))) (pss_one (ps_ret pe_bl)) pss_nil) (pss_cons (ps_if (pt_not (pt_val (pu_call c_law_below hr (by decide) (by rfl) (pa_cons (pu_tup (pa_cons (pv 7) (pa_cons pe_int pa_nil))) (pa_cons (pu_call c_law_sum hr (by decide) (by rfl) (pa_cons (pu_ix hr (pv 8) (pv 5) (fun _ _ => rfl)) (pa_cons (pv 3) pa_nil)) pass0) pa_nil)) pass0))) (pss_one (ps_ret pe_bl)) pss_nil) (pss_one (ps_ret (pe_or (pe_cmpR op_ge (pv 5) (pe_callB cu_len (by rfl) f_len (by decide +kernel) (pa_cons (pv 2) pa_nil)) (nomark _)) (pe_one (pe_and (pe_cmpR (ou_eq hr) (pu_ix hr (pv 2) (pv 5) (fun _ _ => rfl)) (pv 6) (nomark _)) (pe_one (pe_cmpR (ou_eq hr) (pu_count hr (pe_slice su_any (pv 2) po_none (po_some (pe_op ou_add (pv 5) pe_int))) (pa_cons (pv 6) pa_nil)) (pv 7) (nomark _)))))))))))))
theorem sc_law_is_due : FnScope ["dues_so", "bound", "payment"] ["dues_so", "bound", "payment"] (defScope (top 36)) := ⟨rfl, rfl, rfl, by decide +kernel, rfl, by decide +kernel, by decide +kernel⟩
theorem c_law_is_due {P : Program} {w : World} {K : PySem.W.Frag} {mg : Str → Option Value} {base : Heap} (F : Df K mg "_law_is_due" (top 36)) (c_law_below : Cal P w K mg base 1 "_law_below" ["one", "other"] (sp_law_below K)) (c_law_sum : Cal P w K mg base 3 "_law_sum" ["one", "other"] (sp_law_sum K)) : Cal P w K mg base 4 "_law_is_due" ["dues_so", "bound", "payment"] (sp_law_is_due K) := by
  have sc := sc_law_is_due
  refine F.cal (k := 3) (t := t_law_is_due K) sc (fun _ _ _ _ _ _ us hl => match us, hl with | [_, _, _], _ => rfl) (sp_len fun _ => rfl) run_law_is_due fun f cdv A outer s H E hr => ?_
  exact (pss_one (ps_ret (pe_not (pu_call c_law_below hr (by decide) (by rfl) (pa_cons (pu_ix hr (pu_ix hr (pv 0) (pu_ix hr (pv 2) pe_int (fun _ _ => rfl)) (fun _ _ => rfl)) (pe_un un_neg pe_int) (fun _ _ => rfl)) (pa_cons (pu_call c_law_sum hr (by decide) (by rfl) (pa_cons (pu_tup (pa_cons (pe_op op_sub (pu_ix hr (pv 2) pe_int (fun _ _ => rfl)) pe_int) (pa_cons pe_int pa_nil))) (pa_cons (pv 1) pa_nil)) pass0) pa_nil)) pass0))))
theorem sc_law_bound : FnScope ["tape", "rounds", "payers", "bound", "some"] ["tape", "rounds", "payers"] (defScope (top 37)) := ⟨rfl, rfl, rfl, by decide +kernel, rfl, by decide +kernel, by decide +kernel⟩
theorem c_law_bound {P : Program} {w : World} {K : PySem.W.Frag} {mg : Str → Option Value} {base : Heap} (F : Df K mg "_law_bound" (top 37)) (c_law_unfair : Cal P w K mg base 5 "_law_unfair" ["rounds", "payers"] (sp_law_unfair K)) (c_law_least : Cal P w K mg base 6 "_law_least" ["rounds", "payers"] (sp_law_least K)) (c_law_draw : Cal P w K mg base 1 "_law_draw" ["tape", "many"] (sp_law_draw K)) (c_law_frac : Cal P w K mg base 2 "_law_frac" ["top", "bottom"] (sp_law_frac K)) : Cal P w K mg base 7 "_law_bound" ["tape", "rounds", "payers"] (sp_law_bound K) := by
  have sc := sc_law_bound
  refine F.cal (k := 6) (t := t_law_bound K) sc (fun _ _ _ _ _ _ us hl => match us, hl with | [_, _, _], _ => rfl) (sp_len fun _ => rfl) run_law_bound fun f cdv A outer s H E hr => ?_
  exact (pss_cons (ps_set (i := 3) sc.nd rfl (by first | exact Or.inl rfl | exact Or.inr rfl) (pu_call c_law_frac hr (by decide) (by rfl) (pa_cons (pe_op ou_add pe_int (pu_call c_law_draw hr (by decide) (by rfl) (pa_cons (pv 0) (pa_cons pe_int pa_nil)) pass0)) (pa_cons (pe_op ou_add pe_int (pu_call c_law_draw hr (by decide) (by rfl) (pa_cons (pv 0) (pa_cons pe_int pa_nil)) pass0)) pa_nil)) pass0)) (pss_cons (ps_set (i := 4) sc.nd rfl (by first | exact Or.inl rfl | exact Or.inr rfl) (pu_ix hr (pe_lst (pa_cons (pu_call c_law_least hr (by decide) (by rfl) (pa_cons (pv 1) (pa_cons (pv 2) pa_nil)) pass0) (pa_cons (pu_call c_law_unfair hr (by decide) (by rfl) (pa_cons (pv 1) (pa_cons (pv 2) pa_nil)) pass0) (pa_cons (pv 3) pa_nil)))) (pu_call c_law_draw hr (by decide) (by rfl) (pa_cons (pv 0) (pa_cons pe_int pa_nil)) pass0) (fun _ _ => rfl))) (pss_one (ps_ret (pe_ifExp (pt_cmpR (ou_eq hr) (pv 4) (pu_tup (pa_cons pe_int (pa_cons pe_int pa_nil))) (nomark _)) (pv 3) (pv 4))))))
theorem sc_law : FnScope ["script", "tape", "guests", "turn", "rounds", "payers", "bound", "due", "name", "number", "place", "good"] ["script"] (defScope (top 38)) := ⟨rfl, rfl, rfl, by decide +kernel, rfl, by decide +kernel, by decide +kernel⟩
theorem ok_law {P : Program} {w : World} {K : PySem.W.Frag} {mg : Str → Option Value} {base : Heap} {f : Addr} {fd : FuncData} (F : FunD K "law" "law" (defArgs (top 38)) (defBody (top 38)) (defScope (top 38)) [] [] f fd) (c_law_like : Cal P w K mg base 9 "_law_like" ["one", "two"] (sp_law_like K 7)) (c_fits : Cal P w K mg base 4 "fits" ["rounds", "payers", "bound", "payment", "place"] (sp_fits K)) (c_law_fits : Cal P w K mg base 4 "_law_fits" ["dues_so", "rounds", "payers", "bound", "payment", "place"] (sp_law_fits K)) (c_law_is_due : Cal P w K mg base 4 "_law_is_due" ["dues_so", "bound", "payment"] (sp_law_is_due K)) (c_is_due : Cal P w K mg base 4 "is_due" ["rounds", "bound", "payment"] (sp_is_due K)) (c_law_dues : Cal P w K mg base 4 "_law_dues" ["rounds"] (sp_law_dues K)) (c_law_bound : Cal P w K mg base 7 "_law_bound" ["tape", "rounds", "payers"] (sp_law_bound K)) (c_law_payers : Cal P w K mg base 2 "_law_payers" ["tape", "rounds", "most"] (sp_law_payers K)) (c_law_rounds : Cal P w K mg base 4 "_law_rounds" ["tape", "most", "guests", "all_can"] (sp_law_rounds K)) (c_law_draw : Cal P w K mg base 1 "_law_draw" ["tape", "many"] (sp_law_draw K)) (f_range : mg "range" = none) (f_sorted : mg "sorted" = none) (f_len : mg "len" = none) (f_list : mg "list" = none) : FnOk P w K mg base CX0 10 f fd ["script"] (sp_law K) := by
  have sc := sc_law
  refine fnOkD (k := 9) (t := t_law03 K) F sc (fun vs H Q E ⟨a, ns, e, _⟩ => by rw [e]; rfl) run_law03 fun f cdv A outer s H E hr => ?_
  exact (pss_cons (ps_set (i := 1) sc.nd rfl (by first | exact Or.inl rfl | exact Or.inr rfl) (pe_lst (pa_cons (pe_callTy (cu_list rfl) (by rfl) f_list (by decide +kernel) (pa_cons (pv 0) pa_nil)) (pa_cons pe_int (pa_cons pe_int pa_nil))))) (pss_cons (ps_set (i := 2) sc.nd rfl (by first | exact Or.inl rfl | exact Or.inr rfl) (pe_lst (pa_cons pe_str (pa_cons pe_str (pa_cons pe_str (pa_cons pe_str (pa_cons pe_str (pa_cons pe_str pa_nil)))))))) (pss_cons (ps_for PassesOwn.never rfl (pi_range1 (by rfl) f_range (pa_cons pe_int pa_nil)) (pg_name (i := 3) sc.nd rfl (by first | exact Or.inl rfl | exact Or.inr rfl)) (pss_cons (ps_set (i := 4) sc.nd rfl (by first | exact Or.inl rfl | exact Or.inr rfl) (pu_call c_law_rounds hr (by decide) (by rfl) (pa_cons (pv 1) (pa_cons pe_int (pa_cons (pe_slice su_any (pv 2) po_none (po_some (pe_op ou_add pe_int (pu_call c_law_draw hr (by decide) (by rfl) (pa_cons (pv 1) (pa_cons pe_int pa_nil)) pass0)))) (pa_cons (pe_cmpR (ou_eq hr) (pu_call c_law_draw hr (by decide) (by rfl) (pa_cons (pv 1) (pa_cons pe_int pa_nil)) pass0) pe_int (nomark _)) pa_nil)))) pass0)) (pss_cons (ps_set (i := 5) sc.nd rfl (by first | exact Or.inl rfl | exact Or.inr rfl) (pu_call c_law_payers hr (by decide) (by rfl) (pa_cons (pv 1) (pa_cons (pv 4) (pa_cons pe_int pa_nil))) pass0)) (pss_cons (ps_par rfl sc.nd rfl rfl (by decide) rfl rfl (pa_cons (pu_call c_law_bound hr (by decide) (by rfl) (pa_cons (pv 1) (pa_cons (pv 4) (pa_cons (pv 5) pa_nil))) pass0) (pa_cons (pu_call c_law_dues hr (by decide) (by rfl) (pa_cons (pv 4) pa_nil) pass0) pa_nil)) (by rfl)) (pss_one (ps_for PassesOwn.never rfl (pu_seq (pe_callB (cu_sorted rfl) (by rfl) f_sorted (by decide +kernel) (pa_cons (pv 7) pa_nil))) (pg_name (i := 8) sc.nd rfl (by first | exact Or.inl rfl | exact Or.inr rfl)) (pss_one (ps_for PassesOwn.never rfl (pi_range2 (by rfl) f_range (pa_cons pe_int (pa_cons (pe_op ou_add (pe_callB cu_len (by rfl) f_len (by decide +kernel) (pa_cons (pv 4) pa_nil)) pe_int) pa_nil))) (pg_name (i := 9) sc.nd rfl (by first | exact Or.inl rfl | exact Or.inr rfl)) (pss_cons (ps_if (pt_not (pt_val (pu_call c_law_like hr (by decide) (by rfl) (pa_cons (pu_call c_is_due hr (by decide) (by rfl) (pa_cons (pv 4) (pa_cons (pv 6) (pa_cons (pu_tup (pa_cons (pv 8) (pa_cons (pv 9) pa_nil))) pa_nil))) pass0) (pa_cons (pu_call c_law_is_due hr (by decide) (by rfl) (pa_cons (pv 7) (pa_cons (pv 6) (pa_cons (pu_tup (pa_cons (pv 8) (pa_cons (pv 9) pa_nil))) pa_nil))) pass0) pa_nil)) pass0))) (pss_one (ps_ret pe_bl)) pss_nil) (pss_one (ps_for PassesOwn.never rfl (pi_range1 (by rfl) f_range (pa_cons (pe_callB cu_len (by rfl) f_len (by decide +kernel) (pa_cons (pv 4) pa_nil)) pa_nil)) (pg_name (i := 10) sc.nd rfl (by first | exact Or.inl rfl | exact Or.inr rfl)) (pss_cons (ps_set (i := 11) sc.nd rfl (by first | exact Or.inl rfl | exact Or.inr rfl) (pu_call c_law_fits hr (by decide) (by rfl) (pa_cons (pv 7) (pa_cons (pv 4) (pa_cons (pv 5) (pa_cons (pv 6) (pa_cons (pu_tup (pa_cons (pv 8) (pa_cons (pv 9) pa_nil))) (pa_cons (pv 10) pa_nil)))))) pass0)) (pss_one (ps_if (pt_not (pt_val (pu_call c_law_like hr (by decide) (by rfl) (pa_cons (pu_call c_fits hr (by decide) (by rfl) (pa_cons (pv 4) (pa_cons (pv 5) (pa_cons (pv 6) (pa_cons (pu_tup (pa_cons (pv 8) (pa_cons (pv 9) pa_nil))) (pa_cons (pv 10) pa_nil))))) pass0) (pa_cons (pv 11) pa_nil)) pass0))) (pss_one (ps_ret pe_bl)) pss_nil)))))))))))))) (pss_one (ps_ret pe_bl)))))
def dAt (x : Str) (i : Nat) : He.DefD := ⟨(x, none), x, x, defArgs (top i), defBody (top i), defScope (top i), [], []⟩
def fn : List He.DefD := [dAt "fraction" 2, dAt "plus" 3, dAt "minus" 4, dAt "is_less" 5, dAt "whole" 6, dAt "part" 8, dAt "due_row" 9, dAt "who_can" 10, dAt "is_open" 12, dAt "reach" 13, dAt "fits" 14, dAt "is_due" 15, dAt "_law_draw" 17, dAt "_law_like" 18, dAt "_law_any_order" 19, dAt "_law_common" 20, dAt "_law_frac" 21, dAt "_law_sum" 22, dAt "_law_less" 23, dAt "_law_below" 24, dAt "_law_round" 25, dAt "_law_rounds" 26, dAt "_law_can" 27, dAt "_law_payers" 28, dAt "_law_names" 29, dAt "_law_dues" 30, dAt "_law_gap" 31, dAt "_law_ways" 32, dAt "_law_least" 33, dAt "_law_unfair" 34, dAt "_law_fits" 35, dAt "_law_is_due" 36, dAt "_law_bound" 37, dAt "law" 38]
def fa : List He.Fa := [.glo "fraction", .glo "plus", .glo "minus", .glo "is_less", .glo "whole", .glo "part", .glo "due_row", .glo "who_can", .glo "is_open", .glo "reach", .glo "fits", .glo "is_due", .glo "_law_draw", .glo "_law_like", .glo "_law_any_order", .glo "_law_common", .glo "_law_frac", .glo "_law_sum", .glo "_law_less", .glo "_law_below", .glo "_law_round", .glo "_law_rounds", .glo "_law_can", .glo "_law_payers", .glo "_law_names", .glo "_law_dues", .glo "_law_gap", .glo "_law_ways", .glo "_law_least", .glo "_law_unfair", .glo "_law_fits", .glo "_law_is_due", .glo "_law_bound", .glo "law", .glo "NOUGHT", .free "abs", .free "all", .free "bool", .free "dict", .free "enumerate", .free "int", .free "isinstance", .free "len", .free "list", .free "min", .free "range", .free "sorted", .free "sum", .free "tuple", .free "zip"]
def exB (K : PySem.W.Frag) : Bool := He.tupB K "NOUGHT" [.int 0, .int 1]
abbrev AlN : Type := He.AlD × Bool
def obsN (n : Nat) (g : Addr → Option Obj) : AlN := (He.obsD fa fn (He.frG g (He.asD g n)), exB (He.frG g (He.asD g n)))
structure SaysN (K : PySem.W.Frag) : Prop where
  d : He.SaysD fa fn K
  x : exB K = true
def hkN (n : Nat) : PySem.W.Hook where
  α := AlN
  obs := fun s => obsN n s.heap.get?
  val := fun _ => (He.valD fn, true)
  says := fun _ h => ∃ K : PySem.W.Frag, K.In h ∧ SaysN K
  of := fun _ _ e => ⟨_, He.frG_in, ⟨congrArg (fun z : AlN => z.1) e, congrArg (fun z : AlN => z.2) e⟩⟩
  keeps := fun _ _ _ ⟨K, hK, c⟩ k => ⟨K, PySem.W.Frag.In.keeps hK k, c⟩
abbrev R : PySem.W.OpenRow := PySem.W.OpenLaw.row PySem.Challenge.rw_roundfair_k03_payments_that_fit_or_are_d
abbrev hk : PySem.W.Hook := hkN 4
def ob (s : PySem.W.SharedT) : AlN := obsN 4 (HandSHeadRun.getT s)
theorem ob_eq (s : PySem.W.SharedT) : ob s = hk.obs s.abs := by
  have e : HandSHeadRun.getT s = s.abs.heap.get? := funext (HandSHeadRun.getT_eq s)
  show obsN 4 (HandSHeadRun.getT s) = obsN 4 s.abs.heap.get?
  rw [e]
def loose0 : List PySem.Str := ["fraction", "plus", "minus", "is_less", "whole", "part", "due_row", "who_can", "is_open", "reach", "fits", "is_due"]
def loose1 : List PySem.Str := ["_law_draw", "_law_like", "_law_any_order", "_law_common", "_law_frac", "_law_sum", "_law_less", "_law_below", "_law_round", "_law_rounds", "_law_can", "_law_payers"]
def loose2 : List PySem.Str := ["_law_names", "_law_dues", "_law_gap", "_law_ways", "_law_least", "_law_unfair", "_law_fits", "_law_is_due", "_law_bound", "NOUGHT"]
def loose : List PySem.Str := loose0 ++ loose1 ++ loose2
theorem run (w : World) : HandSHeadRun.RunEq R (PySem.W.view R.prog [38]) hk ob 2000 loose w := by
  intro os
  kernel_rfl
theorem mkDf {K : PySem.W.Frag} {h : Heap} {mg : Str → Option Value} (X : K.In h) (G : h.Ns mainGlobals mg) (c : He.SaysD fa fn K) (i : Nat) {x : Str} {n : Nat} (hi : fn[i]? = some (dAt x n)) (hj : fa[i]? = some (.glo x)) : Df K mg x (top n) := by
  obtain ⟨fd, F⟩ := c.def_ i hi
  exact ⟨_, fd, F, He.glo_ok X G (c.fact i hj)⟩
theorem facts {P : Program} {w : World} {K : PySem.W.Frag} {h : Heap} {mg : Str → Option Value} {f : Addr} (X : K.In h) (G : h.Ns mainGlobals mg) (hfa : mg ("law" : Str) = some (.ref f)) (c : SaysN K) :
    ∃ fd : FuncData, (∀ (s : Shared) (v : Value), BindsTo s fd ⟨[v], []⟩ [("script", v)]) ∧ ∀ base : Heap, K.In base → base.Ns mainGlobals mg → FnOk P w K mg base CX0 10 f fd ["script"] (sp_law K) := by
  have hn : NoughtOk K := fun I => ⟨_, _, rfl, He.tupB_ok c.x I, _, _, rfl, rfl, _, _, rfl, rfl, rfl⟩
  have f_abs : mg "abs" = none := He.free_ok X G (c.d.fact 35 (f := .free "abs") rfl)
  have f_all : mg "all" = none := He.free_ok X G (c.d.fact 36 (f := .free "all") rfl)
  have f_bool : mg "bool" = none := He.free_ok X G (c.d.fact 37 (f := .free "bool") rfl)
  have f_dict : mg "dict" = none := He.free_ok X G (c.d.fact 38 (f := .free "dict") rfl)
  have f_enumerate : mg "enumerate" = none := He.free_ok X G (c.d.fact 39 (f := .free "enumerate") rfl)
  have f_int : mg "int" = none := He.free_ok X G (c.d.fact 40 (f := .free "int") rfl)
  have f_isinstance : mg "isinstance" = none := He.free_ok X G (c.d.fact 41 (f := .free "isinstance") rfl)
  have f_len : mg "len" = none := He.free_ok X G (c.d.fact 42 (f := .free "len") rfl)
  have f_list : mg "list" = none := He.free_ok X G (c.d.fact 43 (f := .free "list") rfl)
  have f_min : mg "min" = none := He.free_ok X G (c.d.fact 44 (f := .free "min") rfl)
  have f_range : mg "range" = none := He.free_ok X G (c.d.fact 45 (f := .free "range") rfl)
  have f_sorted : mg "sorted" = none := He.free_ok X G (c.d.fact 46 (f := .free "sorted") rfl)
  have f_sum : mg "sum" = none := He.free_ok X G (c.d.fact 47 (f := .free "sum") rfl)
  have f_tuple : mg "tuple" = none := He.free_ok X G (c.d.fact 48 (f := .free "tuple") rfl)
  have f_zip : mg "zip" = none := He.free_ok X G (c.d.fact 49 (f := .free "zip") rfl)
  have g_NOUGHT := He.glo_ok X G (c.d.fact 34 rfl)
  obtain ⟨fd, F⟩ := c.d.def_ 33 (d := dAt "law" 38) rfl
  have e := hfa.symm.trans (He.glo_ok X G (c.d.fact 33 (f := .glo "law") rfl))
  cases e
  have b := FunD.bindsA (ps := ["script"]) F fun _ _ _ _ _ _ us hl => match us, hl with | [_], _ => rfl
  refine ⟨fd, fun s v => b s [v] rfl, fun base _ _ => ?_⟩
  have c_fraction := c_fraction (P := P) (w := w) (base := base) (mkDf X G c.d 0 (x := "fraction") (n := 2) rfl rfl) f_abs
  have c_plus := c_plus (P := P) (w := w) (base := base) (mkDf X G c.d 1 (x := "plus") (n := 3) rfl rfl) c_fraction
  have c_minus := c_minus (P := P) (w := w) (base := base) (mkDf X G c.d 2 (x := "minus") (n := 4) rfl rfl) c_fraction
  have c_is_less := c_is_less (P := P) (w := w) (base := base) (mkDf X G c.d 3 (x := "is_less") (n := 5) rfl rfl) 
  have c_whole := c_whole (P := P) (w := w) (base := base) (mkDf X G c.d 4 (x := "whole") (n := 6) rfl rfl) 
  have c_part := c_part (P := P) (w := w) (base := base) (mkDf X G c.d 5 (x := "part") (n := 8) rfl rfl) c_fraction f_sum g_NOUGHT hn
  have c_due_row := c_due_row (P := P) (w := w) (base := base) (mkDf X G c.d 6 (x := "due_row") (n := 9) rfl rfl) c_plus c_part f_tuple g_NOUGHT hn
  have c_who_can := c_who_can (P := P) (w := w) (base := base) (mkDf X G c.d 7 (x := "who_can") (n := 10) rfl rfl) 
  have c_is_open := c_is_open (P := P) (w := w) (base := base) (mkDf X G c.d 8 (x := "is_open") (n := 12) rfl rfl) c_who_can f_len
  have c_reach := c_reach (P := P) (w := w) (base := base) (mkDf X G c.d 9 (x := "reach") (n := 13) rfl rfl) c_minus c_whole g_NOUGHT hn
  have c_fits := c_fits (P := P) (w := w) (base := base) (mkDf X G c.d 10 (x := "fits") (n := 14) rfl rfl) c_reach c_due_row c_is_less c_is_open f_all
  have c_is_due := c_is_due (P := P) (w := w) (base := base) (mkDf X G c.d 11 (x := "is_due") (n := 15) rfl rfl) c_is_less c_plus c_whole c_due_row
  have c_law_draw := c_law_draw (P := P) (w := w) (base := base) (mkDf X G c.d 12 (x := "_law_draw") (n := 17) rfl rfl) f_len
  have c_law_like := c_law_like (P := P) (w := w) (base := base) (mkDf X G c.d 13 (x := "_law_like") (n := 18) rfl rfl) f_isinstance f_bool f_tuple f_list f_len f_range
  have c_law_any_order := c_law_any_order (P := P) (w := w) (base := base) (mkDf X G c.d 14 (x := "_law_any_order") (n := 19) rfl rfl) c_law_draw f_tuple f_range
  have c_law_common := c_law_common (P := P) (w := w) (base := base) (mkDf X G c.d 15 (x := "_law_common") (n := 20) rfl rfl) 
  have c_law_frac := c_law_frac (P := P) (w := w) (base := base) (mkDf X G c.d 16 (x := "_law_frac") (n := 21) rfl rfl) c_law_common f_abs
  have c_law_sum := c_law_sum (P := P) (w := w) (base := base) (mkDf X G c.d 17 (x := "_law_sum") (n := 22) rfl rfl) c_law_frac
  have c_law_less := c_law_less (P := P) (w := w) (base := base) (mkDf X G c.d 18 (x := "_law_less") (n := 23) rfl rfl) c_law_frac
  have c_law_below := c_law_below (P := P) (w := w) (base := base) (mkDf X G c.d 19 (x := "_law_below") (n := 24) rfl rfl) 
  have c_law_round := c_law_round (P := P) (w := w) (base := base) (mkDf X G c.d 20 (x := "_law_round") (n := 25) rfl rfl) c_law_draw c_law_any_order f_tuple f_enumerate f_int f_len f_sorted f_min
  have c_law_rounds := c_law_rounds (P := P) (w := w) (base := base) (mkDf X G c.d 21 (x := "_law_rounds") (n := 26) rfl rfl) c_law_draw c_law_round f_range f_tuple
  have c_law_can := c_law_can (P := P) (w := w) (base := base) (mkDf X G c.d 22 (x := "_law_can") (n := 27) rfl rfl) 
  have c_law_payers := c_law_payers (P := P) (w := w) (base := base) (mkDf X G c.d 23 (x := "_law_payers") (n := 28) rfl rfl) c_law_draw c_law_can f_len
  have c_law_names := c_law_names (P := P) (w := w) (base := base) (mkDf X G c.d 24 (x := "_law_names") (n := 29) rfl rfl) f_sorted
  have c_law_dues := c_law_dues (P := P) (w := w) (base := base) (mkDf X G c.d 25 (x := "_law_dues") (n := 30) rfl rfl) c_law_names c_law_sum c_law_frac f_tuple f_sum
  have c_law_gap := c_law_gap (P := P) (w := w) (base := base) (mkDf X G c.d 26 (x := "_law_gap") (n := 31) rfl rfl) c_law_below c_law_less f_sorted f_zip f_abs
  have c_law_ways := c_law_ways (P := P) (w := w) (base := base) (mkDf X G c.d 27 (x := "_law_ways") (n := 32) rfl rfl) c_law_can c_law_below c_law_gap c_law_names c_law_dues f_len f_range f_dict f_enumerate
  have c_law_least := c_law_least (P := P) (w := w) (base := base) (mkDf X G c.d 28 (x := "_law_least") (n := 33) rfl rfl) c_law_ways c_law_names f_len
  have c_law_unfair := c_law_unfair (P := P) (w := w) (base := base) (mkDf X G c.d 29 (x := "_law_unfair") (n := 34) rfl rfl) c_law_below c_law_gap c_law_dues f_len f_range f_sorted
  have c_law_fits := c_law_fits (P := P) (w := w) (base := base) (mkDf X G c.d 30 (x := "_law_fits") (n := 35) rfl rfl) c_law_below c_law_sum c_law_can f_len
  have c_law_is_due := c_law_is_due (P := P) (w := w) (base := base) (mkDf X G c.d 31 (x := "_law_is_due") (n := 36) rfl rfl) c_law_below c_law_sum
  have c_law_bound := c_law_bound (P := P) (w := w) (base := base) (mkDf X G c.d 32 (x := "_law_bound") (n := 37) rfl rfl) c_law_unfair c_law_least c_law_draw c_law_frac
  exact ok_law F c_law_like c_fits c_law_fits c_law_is_due c_is_due c_law_dues c_law_bound c_law_payers c_law_rounds c_law_draw f_range f_sorted f_len f_list
end RF
open PySem PySem.W PySem.Calls PyProof.Rows
theorem PySem.Challenge.cw_roundfair_k03_payments_that_fit_or_are_d_holds : PySem.Challenge.rw_roundfair_k03_payments_that_fit_or_are_d.Holds := by
  w_on; o_law
  refine HandSHeadRun.head_any (r := OpenLaw.row PySem.Challenge.rw_roundfair_k03_payments_that_fit_or_are_d) (q := view (OpenLaw.row PySem.Challenge.rw_roundfair_k03_payments_that_fit_or_are_d).prog [38]) (H := RF.hk) (ob := RF.ob) (M := 2000) (loose := RF.loose) (d := HandSHeadRun.topDef (OpenLaw.row PySem.Challenge.rw_roundfair_k03_payments_that_fit_or_are_d).prog 38) (kwd := []) RF.ob_eq
    (by kernel_rfl) (fun s => by kernel_rfl) RF.run (by kernel_rfl) (by kernel_rfl) (by kernel_rfl) (by rfl) (by first | assumption | decide +kernel) (by decide +kernel) ⟨rfl, rfl, rfl, rfl, rfl, by decide +kernel⟩ ?hw ?hc
  case hw => w_witness2
  case hc =>
    refine L2.walk_ofE (l := PySem.Challenge.rw_roundfair_k03_payments_that_fit_or_are_d) (n := 63) (k := 10) (x := "script") (CX := L2.CX0) rfl (by decide) (by kernel_rfl) ⟨rfl, by decide, by decide⟩ ?F (fun _ _ _ _ z => z)
    intro w mg fa h Y G hmg0
    obtain ⟨K, KX, c⟩ := Y
    have hmg : mg ("law" : PySem.Str) = some (.ref fa) := by
      have e : (HandSHeadRun.topDef (OpenLaw.row PySem.Challenge.rw_roundfair_k03_payments_that_fit_or_are_d).prog 38).name = ("law" : PySem.Str) := by kernel_rfl
      rw [← e]
      exact hmg0
    obtain ⟨fd, hb, hF⟩ := RF.facts (P := (PySem.Challenge.rw_roundfair_k03_payments_that_fit_or_are_d).prog) (w := w) KX G hmg c
    exact ⟨K, fd, RF.sp_law K, KX, hb, fun H a ns hl hO hS => ⟨a, ns, rfl, hl, hO, hS, fun _ => rfl⟩, hF⟩
