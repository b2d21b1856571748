import PyProof.Rows.All
import Wide.All
import OpenK.AllK
import Wide.FinOn
import Lean
import PySem.Challenge.RW_pq0300_01
open PySem PySem.W PyProof.Rows PySem.Calls
set_option Elab.async false
set_option maxRecDepth 100000
set_option linter.all false
set_option linter.unusedVariables false
set_option linter.unusedSimpArgs false
set_option linter.unusedSectionVars false
set_option tactic.hygienic false
namespace Mine
set_option genSizeOf false
set_option genInjectivity false
theorem neg_abs {z:Int}:-z≤(z.natAbs:Int):=by
 rw [← Int.natAbs_neg];exact Int.le_natAbs
inductive Tm where
 | iv (k:Nat) | nv (k:Nat) | num (n:Nat) | pw (n:Nat) | add (x y:Tm) | sub (x y:Tm) | neg (x:Tm) | ml (c:Nat) (x:Tm) | mr (x:Tm) (c:Nat) | cast (x:Tm)
inductive Cn where
 | mk (k:Nat) (nat:Bool) (neg:Bool) (x y:Tm)
 | ff
noncomputable def gAt {α:Type} (d:α):List α→Nat→α
 | [],_=>d
 | x::l,k=>match k with
  | 0=>x
  | k+1=>gAt d l k
noncomputable def denN (ns:List Nat):Tm→Nat
 | .nv k=>gAt 0 ns k
 | .num n=>OfNat.ofNat n
 | .pw n=>2 ^ OfNat.ofNat n
 | .add x y=>denN ns x+denN ns y
 | .ml c x=>OfNat.ofNat c*denN ns x
 | .mr x c=>denN ns x*OfNat.ofNat c
 | .iv _=>0
 | .sub _ _=>0
 | .neg _=>0
 | .cast _=>0
noncomputable def denZ (is:List Int) (ns:List Nat):Tm→Int
 | .iv k=>gAt 0 is k
 | .num n=>OfNat.ofNat n
 | .pw n=>2 ^ OfNat.ofNat n
 | .add x y=>denZ is ns x+denZ is ns y
 | .sub x y=>denZ is ns x - denZ is ns y
 | .neg x=>- denZ is ns x
 | .ml c x=>OfNat.ofNat c*denZ is ns x
 | .mr x c=>denZ is ns x*OfNat.ofNat c
 | .cast x=>(denN ns x:Int)
 | .nv _=>0
noncomputable def cmpD {α:Type} [LT α] [LE α] (k:Nat) (x y:α):Prop:=match k with
 | 0=>x < y
 | 1=>x≤y
 | 2=>x=y
 | 3=>x > y
 | _=>x ≥ y
noncomputable def notIf (b:Bool) (p:Prop):Prop:=match b with
 | true=>¬ p
 | false=>p
noncomputable def denC (is:List Int) (ns:List Nat):Cn→Prop
 | .mk k nat neg x y=>match nat with
  | true=>notIf neg (cmpD k (denN ns x) (denN ns y))
  | false=>notIf neg (cmpD k (denZ is ns x) (denZ is ns y))
 | .ff=>False
structure Ln where
 c:Int
 a:List Int
 b:List Int
noncomputable def addA (x y:List Int):List Int:=match x with
 | []=>y
 | p::x=>match y with
  | []=>p::x
  | q::y=>(p+q)::addA x y
noncomputable def sclA (m:Int):List Int→List Int
 | []=>[]
 | p::x=>(m*p)::sclA m x
noncomputable def unit:Nat→List Int
 | 0=>[1]
 | k+1=>0::unit k
noncomputable def Ln.add (x y:Ln):Ln:=⟨x.c+y.c,addA x.a y.a,addA x.b y.b⟩
noncomputable def Ln.scl (m:Int) (x:Ln):Ln:=⟨m*x.c,sclA m x.a,sclA m x.b⟩
noncomputable def Ln.k (k:Int):Ln:=⟨k,[],[]⟩
noncomputable def linN:Tm→Ln
 | .nv k=>⟨0,[],unit k⟩
 | .num n=>.k n
 | .pw n=>.k (2 ^ n:Nat)
 | .add x y=>(linN x).add (linN y)
 | .ml c x=>(linN x).scl c
 | .mr x c=>(linN x).scl c
 | .iv _=>.k 0
 | .sub _ _=>.k 0
 | .neg _=>.k 0
 | .cast _=>.k 0
noncomputable def linZ:Tm→Ln
 | .iv k=>⟨0,unit k,[]⟩
 | .num n=>.k n
 | .pw n=>.k (2 ^ n:Nat)
 | .add x y=>(linZ x).add (linZ y)
 | .sub x y=>(linZ x).add ((linZ y).scl (-1))
 | .neg x=>(linZ x).scl (-1)
 | .ml c x=>(linZ x).scl c
 | .mr x c=>(linZ x).scl c
 | .cast x=>linN x
 | .nv _=>.k 0
noncomputable def dotA (x y:List Int):Int:=match x with
 | []=>0
 | p::x=>match y with
  | []=>0
  | q::y=>p*q+dotA x y
noncomputable def natsI:List Nat→List Int
 | []=>[]
 | x::l=>(x:Int)::natsI l
theorem add4 (a b c d:Int):(a+b)+(c+d)=(a+c)+(b+d):=by
 rw [Int.add_assoc,Int.add_left_comm b,← Int.add_assoc]
theorem dot_add:∀ (x y v:List Int),dotA (addA x y) v=dotA x v+dotA y v
 | [],y,v=>(Int.zero_add _).symm
 | p::x,[],v=>(Int.add_zero _).symm
 | p::x,q::y,[]=>rfl
 | p::x,q::y,u::v=>by
  show (p+q)*u+dotA (addA x y) v=(p*u+dotA x v)+(q*u+dotA y v)
  rw [dot_add x y v,Int.add_mul,add4]
theorem dot_scl (m:Int):∀ (x v:List Int),dotA (sclA m x) v=m*dotA x v
 | [],v=>(Int.mul_zero _).symm
 | p::x,[]=>(Int.mul_zero _).symm
 | p::x,u::v=>by
  show m*p*u+dotA (sclA m x) v=m*(p*u+dotA x v)
  rw [dot_scl m x v,Int.mul_add,Int.mul_assoc]
theorem dot_unit:∀ (k:Nat) (v:List Int),dotA (unit k) v=gAt 0 v k
 | 0,[]=>rfl
 | 0,u::v=>(Int.add_zero _).trans (Int.one_mul _)
 | k+1,[]=>rfl
 | k+1,u::v=>by
  show 0*u+dotA (unit k) v=gAt 0 v k
  rw [dot_unit k v,Int.zero_mul,Int.zero_add]
theorem gAt_nat:∀ (k:Nat) (l:List Nat),gAt 0 (natsI l) k=((gAt 0 l k:Nat):Int)
 | _,[]=>rfl
 | 0,_::_=>rfl
 | k+1,_::l=>gAt_nat k l
section
variable (is:List Int) (ns:List Nat)
noncomputable def ev (x:Ln):Int:=x.c+(dotA x.a is+dotA x.b (natsI ns))
theorem ev_add (x y:Ln):ev is ns (x.add y)=ev is ns x+ev is ns y:=by
 show x.c+y.c+(dotA (addA x.a y.a) is+dotA (addA x.b y.b) (natsI ns))=x.c+(dotA x.a is+dotA x.b (natsI ns))+(y.c+(dotA y.a is+dotA y.b (natsI ns)))
 rw [dot_add,dot_add,add4 (dotA x.a is),add4 x.c]
theorem ev_scl (m:Int) (x:Ln):ev is ns (x.scl m)=m*ev is ns x:=by
 show m*x.c+(dotA (sclA m x.a) is+dotA (sclA m x.b) (natsI ns))=m*(x.c+(dotA x.a is+dotA x.b (natsI ns)))
 rw [dot_scl,dot_scl,Int.mul_add,Int.mul_add]
theorem ev_k (k:Int):ev is ns (.k k)=k:=Int.add_zero k
theorem cong2 {f:Int→Int→Int} {a b c d:Int} (h:a=b) (h2:c=d):f a c=f b d:=h▸h2▸rfl
theorem linN_ok:∀ t:Tm,ev is ns (linN t)=(denN ns t:Int)
 | .nv k=>(Int.zero_add _).trans ((Int.zero_add _).trans ((dot_unit k _).trans (gAt_nat k ns)))
 | .num n=>ev_k is ns n
 | .pw n=>ev_k is ns _
 | .add x y=>(ev_add is ns _ _).trans (cong2 (linN_ok x) (linN_ok y))
 | .ml c x=>(ev_scl is ns _ _).trans (congrArg (fun u:Int=>(c:Int)*u) (linN_ok x))
 | .mr x c=>(ev_scl is ns _ _).trans ((Int.mul_comm _ _).trans (congrArg (fun u:Int=>u*(c:Int)) (linN_ok x)))
 | .iv _=>ev_k is ns 0
 | .sub _ _=>ev_k is ns 0
 | .neg _=>ev_k is ns 0
 | .cast _=>ev_k is ns 0
theorem linZ_ok:∀ t:Tm,ev is ns (linZ t)=denZ is ns t
 | .iv k=>(Int.zero_add _).trans ((Int.add_zero _).trans (dot_unit k is))
 | .num n=>ev_k is ns n
 | .pw n=>(ev_k is ns _).trans (Int.natCast_pow 2 n)
 | .add x y=>(ev_add is ns _ _).trans (cong2 (linZ_ok x) (linZ_ok y))
 | .sub x y=>(ev_add is ns _ _).trans (cong2 (linZ_ok x) ((ev_scl is ns _ _).trans ((Int.neg_one_mul _).trans (congrArg Neg.neg (linZ_ok y)))))
 | .neg x=>(ev_scl is ns _ _).trans ((Int.neg_one_mul _).trans (congrArg Neg.neg (linZ_ok x)))
 | .ml c x=>(ev_scl is ns _ _).trans (congrArg (fun u:Int=>(c:Int)*u) (linZ_ok x))
 | .mr x c=>(ev_scl is ns _ _).trans ((Int.mul_comm _ _).trans (congrArg (fun u:Int=>u*(c:Int)) (linZ_ok x)))
 | .cast x=>linN_ok is ns x
 | .nv _=>ev_k is ns 0
noncomputable def dif (a b:Ln):Ln:=b.add (a.scl (-1))
theorem ev_dif {X Y:Ln} {u v:Int} (h1:ev is ns X=u) (h2:ev is ns Y=v):ev is ns (dif X Y)=v - u:=
 (ev_add is ns _ _).trans (cong2 h2 ((ev_scl is ns _ _).trans ((Int.neg_one_mul _).trans (congrArg Neg.neg h1))))
noncomputable def cmpL (k:Nat) (neg:Bool) (X Y:Ln):Ln × Bool:=match k with
 | 0=>bif neg then (dif Y X,false) else (dif (X.add (.k 1)) Y,false)
 | 1=>bif neg then (dif (Y.add (.k 1)) X,false) else (dif X Y,false)
 | 2=>bif neg then (.k 0,false) else (dif X Y,true)
 | 3=>bif neg then (dif X Y,false) else (dif (Y.add (.k 1)) X,false)
 | _=>bif neg then (dif (X.add (.k 1)) Y,false) else (dif Y X,false)
noncomputable def linC:Cn→Ln × Bool
 | .mk k nat neg x y=>match nat with
  | true=>cmpL k neg (linN x) (linN y)
  | false=>cmpL k neg (linZ x) (linZ y)
 | .ff=>(.k (-1),false)
noncomputable def okL (p:Ln × Bool):Prop:=match p.2 with
 | true=>ev is ns p.1=0
 | false=>0≤ev is ns p.1
theorem ok_le {X Y:Ln} {u v:Int} (h1:ev is ns X=u) (h2:ev is ns Y=v) (h:u≤v):okL is ns (dif X Y,false):=by
 show 0≤ev is ns (dif X Y)
 rw [ev_dif is ns h1 h2];exact Int.sub_nonneg_of_le h
theorem ok_lt {X Y:Ln} {u v:Int} (h1:ev is ns X=u) (h2:ev is ns Y=v) (h:u < v):okL is ns (dif (X.add (.k 1)) Y,false):=
 ok_le is ns ((ev_add is ns _ _).trans (cong2 h1 (ev_k is ns 1))) h2 h
theorem cmpL_ok {X Y:Ln} {u v:Int} (h1:ev is ns X=u) (h2:ev is ns Y=v):∀ (k:Nat) (neg:Bool),notIf neg (cmpD k u v)→okL is ns (cmpL k neg X Y)
 | 0,true,h=>ok_le is ns h2 h1 (Int.not_lt.mp h)
 | 1,true,h=>ok_lt is ns h2 h1 (Int.not_le.mp h)
 | 2,true,_=>Int.le_of_eq (ev_k is ns 0).symm
 | 3,true,h=>ok_le is ns h1 h2 (Int.not_lt.mp h)
 | _+4,true,h=>ok_lt is ns h1 h2 (Int.not_le.mp h)
 | 0,false,h=>ok_lt is ns h1 h2 h
 | 1,false,h=>ok_le is ns h1 h2 h
 | 2,false,h=>(ev_dif is ns h1 h2).trans (Int.sub_eq_zero.mpr (Eq.symm h))
 | 3,false,h=>ok_lt is ns h2 h1 h
 | _+4,false,h=>ok_le is ns h2 h1 h
theorem cmp_cast:∀ (k:Nat) (x y:Nat),cmpD k x y↔cmpD k (x:Int) (y:Int)
 | 0=>@fun u0 u0=>Int.ofNat_lt.symm
 | 1=>@fun u0 u0=>Int.ofNat_le.symm
 | 2=>@fun u0 u0=>Int.ofNat_inj.symm
 | 3=>@fun u0 u0=>Int.ofNat_lt.symm
 | _+4=>@fun u0 u0=>Int.ofNat_le.symm
theorem linC_ok:∀ c:Cn,denC is ns c→okL is ns (linC c)
 | .ff=>@fun h=>h.elim
 | .mk k true true x y=>@fun h=>cmpL_ok is ns (linN_ok is ns x) (linN_ok is ns y) k true fun q=>h ((cmp_cast k _ _).mpr q)
 | .mk k true false x y=>@fun h=>cmpL_ok is ns (linN_ok is ns x) (linN_ok is ns y) k false ((cmp_cast k _ _).mp h)
 | .mk k false b x y=>@fun h=>cmpL_ok is ns (linZ_ok is ns x) (linZ_ok is ns y) k b h
noncomputable def sumC:List Cn→Nat→Ln
 | [],_=>.k 0
 | c::cs,r=>((linC c).1.scl (bif (linC c).2 then Int.subNatNat (r % 64) 32 else Int.ofNat (r % 64))).add (sumC cs (r / 64))
noncomputable def isNeg (x:Int):Bool:=match x with
 | .negSucc _=>true
 | .ofNat _=>false
noncomputable def all0:List Int→Bool
 | []=>true
 | x::l=>match x with
  | .ofNat n=>Nat.beq n 0&&all0 l
  | .negSucc _=>false
noncomputable def allLe:List Int→Bool
 | []=>true
 | x::l=>match x with
  | .ofNat n=>Nat.beq n 0&&allLe l
  | .negSucc _=>allLe l
noncomputable def refute (cs:List Cn) (r:Nat):Bool:=isNeg (sumC cs r).c&&(all0 (sumC cs r).a&&allLe (sumC cs r).b)
theorem and_1 {a b:Bool} (h:(a&&b)=true):a=true∧b=true:=by cases a<;>cases b<;>first | exact ⟨rfl,rfl⟩ | cases h
theorem all0_ok:∀ (a v:List Int),all0 a=true→dotA a v=0
 | [],_,_=>rfl
 | _::_,[],_=>rfl
 | .ofNat n::a,u::v,h=>by
  have h:=and_1 h
  cases Nat.eq_of_beq_eq_true h.1
  show (0:Int)*u+dotA a v=0
  rw [all0_ok a v h.2,Int.zero_mul];rfl
 | .negSucc _::_,_::_,h=>nomatch h
theorem allLe_ok:∀ (b:List Int) (v:List Nat),allLe b=true→dotA b (natsI v)≤0
 | [],_,_=>Int.le_refl 0
 | _::_,[],_=>Int.le_refl 0
 | .ofNat n::a,u::v,h=>by
  have h:=and_1 h
  cases Nat.eq_of_beq_eq_true h.1
  show (0:Int)*u+dotA a (natsI v)≤0
  rw [Int.zero_mul,Int.zero_add];exact allLe_ok a v h.2
 | .negSucc n::a,u::v,h=>
  Int.add_nonpos (Int.mul_nonpos_of_nonpos_of_nonneg (Int.le_of_lt (Int.negSucc_lt_zero n)) (Int.natCast_nonneg u)) (allLe_ok a v h)
noncomputable def AllC:List Cn→Prop
 | []=>True
 | c::cs=>denC is ns c∧AllC cs
theorem scl_ok (p:Ln × Bool) (r:Nat) (h:okL is ns p):0≤ev is ns (p.1.scl (bif p.2 then Int.subNatNat (r % 64) 32 else Int.ofNat (r % 64))):=by
 rcases p with ⟨l,b⟩
 rw [ev_scl]
 cases b with
 | true=>
  have h:ev is ns l=0:=h
  rw [h,Int.mul_zero];exact Int.le_refl 0
 | false=>exact Int.mul_nonneg (Int.natCast_nonneg (r % 64)) h
theorem sumC_ok:∀ (cs:List Cn) (r:Nat),AllC is ns cs→0≤ev is ns (sumC cs r)
 | []=>@fun u0 u0=>Int.le_of_eq (ev_k is ns 0).symm
 | c::cs=>@fun r h=>by
  show 0≤ev is ns (Ln.add _ _)
  rw [ev_add]
  exact Int.add_nonneg (scl_ok is ns _ r (linC_ok is ns c h.1)) (sumC_ok cs (r / 64) h.2)
end
theorem isNeg_ok:∀ {x:Int},isNeg x=true→x < 0
 | .negSucc n=>@fun u0=>Int.negSucc_lt_zero n
 | .ofNat _=>@fun h=>nomatch h
theorem refute_ok {is:List Int} {ns:List Nat} {cs:List Cn} {r:Nat} (h:refute cs r=true) (q:AllC is ns cs):False:=by
 have h:=and_1 h
 have h2:=and_1 h.2
 refine absurd (sumC_ok is ns cs r q) (Int.not_le.mpr ?_)
 show (sumC cs r).c+(dotA (sumC cs r).a is+dotA (sumC cs r).b (natsI ns)) < 0
 rw [all0_ok _ is h2.1,Int.zero_add]
 exact Int.add_neg_of_neg_of_nonpos (isNeg_ok h.1) (allLe_ok _ ns h2.2)
noncomputable def proves (cs:List Cn) (g:Cn) (r:Nat):Bool:=match g with
 | .ff=>refute cs r
 | .mk k n b x y=>bif Nat.beq k 2&&!b then refute (.mk 0 n false x y::cs) r&&refute (.mk 3 n false x y::cs) (r / 64 ^ (cs.length+1)) else refute (.mk k n (!b) x y::cs) r
theorem proves_ok {is:List Int} {ns:List Nat} {cs:List Cn} {g:Cn} {r:Nat} (h:proves cs g r=true) (q:AllC is ns cs):denC is ns g:=by
 cases g with
 | ff=>exact (refute_ok h q).elim
 | mk k n b x y=>
  have e:proves cs (.mk k n b x y) r=bif Nat.beq k 2&&!b then refute (.mk 0 n false x y::cs) r&&refute (.mk 3 n false x y::cs) (r / 64 ^ (cs.length+1)) else refute (.mk k n (!b) x y::cs) r:=rfl
  rw [e] at h
  cases c:(Nat.beq k 2&&!b) with
  | true=>
   have c:=and_1 c
   cases Nat.eq_of_beq_eq_true c.1
   cases b with
   | true=>trivial
   | false=>
    have h:=and_1 h
    have h1:=fun u=>refute_ok h.1 (is:=is) (ns:=ns) ⟨u,q⟩
    have h2:=fun u=>refute_ok h.2 (is:=is) (ns:=ns) ⟨u,q⟩
    cases n with
    | true=>exact Nat.le_antisymm (Nat.not_lt.mp h2) (Nat.not_lt.mp h1)
    | false=>exact Int.le_antisymm (Int.not_lt.mp h2) (Int.not_lt.mp h1)
  | false=>
   rw [c] at h
   have h1:=fun u=>refute_ok h (is:=is) (ns:=ns) ⟨u,q⟩
   cases b with
   | true=>cases n<;>exact h1
   | false=>cases n<;>exact Classical.byContradiction h1
noncomputable def readC (f:Nat) (c:Nat) (st:List Tm) (cs:List Cn):List Cn × Nat:=match f with
 | 0=>(cs,c)
 | f+1=>match c % 16 with
  | 0=>readC f (c / 256) (.iv (c / 16 % 16)::st) cs
  | 1=>readC f (c / 256) (.nv (c / 16 % 16)::st) cs
  | 2=>readC f (c / 256) (.num (c / 16 % 16)::st) cs
  | 3=>readC f (c / 16 ^ 9) (.num (c / 16 % 4294967296)::st) cs
  | 4=>readC f (c / 4096) (.pw (c / 16 % 256)::st) cs
  | n+5=>match st with
   | []=>(cs,c / 16)
   | y::st=>match n with
    | 0=>readC f (c / 16) (.neg y::st) cs
    | 1=>readC f (c / 16) (.cast y::st) cs
    | 2=>readC f (c / 4096) (.ml (c / 16 % 256) y::st) cs
    | 3=>readC f (c / 4096) (.mr y (c / 16 % 256)::st) cs
    | n+4=>match st with
     | []=>(cs,c / 16)
     | x::st=>match n with
      | 0=>readC f (c / 16) (.add x y::st) cs
      | 1=>readC f (c / 16) (.sub x y::st) cs
      | 2=>readC f (c / 256) st (.mk (c / 16 % 8) true (Nat.ble 8 (c / 16 % 16)) x y::cs)
      | 3=>readC f (c / 256) st (.mk (c / 16 % 8) false (Nat.ble 8 (c / 16 % 16)) x y::cs)
      | _=>(cs,c / 16)
noncomputable def chk (code:Nat):Bool:=match readC 300 (code / 4096) [] [] with
 | (cs,r)=>bif Nat.beq (code / 256 % 16) 0 then proves cs .ff r else match cs with
  | []=>false
  | g::hs=>proves hs g r
noncomputable def impC (is:List Int) (ns:List Nat):List Cn→Prop→Prop
 | [],p=>p
 | c::cs,p=>denC is ns c→impC is ns cs p
noncomputable def impG (is:List Int) (ns:List Nat) (t:Nat) (cs:List Cn):Prop:=match t with
 | 0=>impC is ns cs False
 | _+1=>match cs with
  | []=>True
  | g::hs=>impC is ns hs (denC is ns g)
noncomputable def allI:Nat→(List Int→Prop)→Prop
 | 0,P=>P []
 | n+1,P=>∀ {x:Int},allI n fun l=>P (x::l)
noncomputable def allN:Nat→(List Nat→Prop)→Prop
 | 0,P=>P []
 | n+1,P=>∀ {x:Nat},allN n fun l=>P (x::l)
theorem allI_mk:∀ (n:Nat) (P:List Int→Prop),(∀ l,P l)→allI n P
 | 0=>@fun u0 h=>h []
 | n+1=>@fun P h=>allI_mk n (fun l=>P (_::l)) fun l=>h (_::l)
theorem allN_mk:∀ (n:Nat) (P:List Nat→Prop),(∀ l,P l)→allN n P
 | 0=>@fun u0 h=>h []
 | n+1=>@fun P h=>allN_mk n (fun l=>P (_::l)) fun l=>h (_::l)
theorem impC_mk (is:List Int) (ns:List Nat):∀ (cs:List Cn) (p:Prop),(AllC is ns cs→p)→impC is ns cs p
 | []=>@fun u0 h=>h trivial
 | _::cs=>@fun p h=>fun q=>impC_mk is ns cs p fun q'=>h ⟨q,q'⟩
theorem ln (code:Nat) (h:true=chk code):allI (code % 16) fun is=>allN (code / 16 % 16) fun ns=>impG is ns (code / 256 % 16) (readC 300 (code / 4096) [] []).1:=by
 refine allI_mk _ _ fun is=>allN_mk _ _ fun ns=>?_
 unfold chk at h
 generalize readC 300 (code / 4096) [] []=p at h ⊢
 rcases p with ⟨cs,r⟩
 generalize code / 256 % 16=t at h ⊢
 cases t with
 | zero=>exact impC_mk is ns cs _ (proves_ok (show proves cs .ff r=true from h.symm))
 | succ t=>cases cs with
  | nil=>exact trivial
  | cons g hs=>exact impC_mk is ns hs _ (proves_ok (show proves hs g r=true from h.symm))
theorem le_if {c:Prop} [Decidable c] {x a b:Int} (h1:c→x≤a) (h2:¬ c→x≤b):x≤if c then a else b:=by
 by_cases h:c
 ·rw [if_pos h];exact h1 h
 ·rw [if_neg h];exact h2 h
theorem if_le {c:Prop} [Decidable c] {x a b:Int} (h1:c→a≤x) (h2:¬ c→b≤x):(if c then a else b)≤x:=by
 by_cases h:c
 ·rw [if_pos h];exact h1 h
 ·rw [if_neg h];exact h2 h
theorem lt_if {c:Prop} [Decidable c] {x a b:Int} (h1:c→x < a) (h2:¬ c→x < b):x < if c then a else b:=le_if (x:=x+1) h1 h2
theorem nabs {x:Int} {N:Nat} (h1:-(N:Int)≤x) (h2:x≤N):x.natAbs≤N:=by
 rcases Int.le_total 0 x with h | h
 ·exact Int.ofNat_le.mp (by rw [Int.natAbs_of_nonneg h];exact h2)
 ·exact Int.ofNat_le.mp (by rw [Int.ofNat_natAbs_of_nonpos h];exact Int.neg_le_of_neg_le h1)
theorem addc {a b k:Int} (h:a+k=b+k):a=b:=(Int.add_sub_cancel a k).symm.trans ((congrArg (· - k) h).trans (Int.add_sub_cancel b k))
theorem clip_nat (lo hi:Int):(if lo < hi then hi - lo else 0).toNat=(hi - lo).toNat:=by
 by_cases h:lo < hi
 ·rw [if_pos h]
 ·rw [if_neg h,Int.toNat_of_nonpos (Int.sub_nonpos_of_le (Int.not_lt.mp h))];rfl
theorem clip_int (lo hi:Int):(if lo < hi then hi - lo else 0)=((hi - lo).toNat:Int):=by
 by_cases h:lo < hi
 ·rw [if_pos h,Int.toNat_of_nonneg (Int.sub_nonneg_of_le (Int.le_of_lt h))]
 ·rw [if_neg h,Int.toNat_of_nonpos (Int.sub_nonpos_of_le (Int.not_lt.mp h))];rfl
end Mine
namespace Mine
theorem el_AA {p1:Prop} {p2:Prop} {p3:Prop} {G:Prop} (h:p1∧p2∧p3) (k:∀ (h1:p1) (h2:p2) (h3:p3),G):G:=k h.1 (h.2).1 h.2.2
theorem in_AA {p1:Prop} {p2:Prop} {p3:Prop} (h1:p1) (h2:p2) (h3:p3):p1∧p2∧p3:=⟨h1,h2,h3⟩
theorem el_EA {α1:Sort _} {p1:α1→Prop} {p2:α1→Prop} {G:Prop} (h:∃ x1,p1 x1∧p2 x1) (k:∀ (x1:α1) (h1:p1 x1) (h2:p2 x1),G):G:=Exists.elim h fun x1 h=>k x1 h.1 h.2
theorem in_EA {α1:Sort _} {p1:α1→Prop} {p2:α1→Prop} (x1:α1) (h1:p1 x1) (h2:p2 x1):∃ x1,p1 x1∧p2 x1:=⟨x1,h1,h2⟩
theorem el_EE {α1:Sort _} {α2:Sort _} {p1:α1→α2→Prop} {G:Prop} (h:∃ x1,∃ x2,p1 x1 x2) (k:∀ (x1:α1) (x2:α2) (h1:p1 x1 x2),G):G:=Exists.elim h fun x1 h=>Exists.elim h fun x2 h=>k x1 x2 h
theorem in_EE {α1:Sort _} {α2:Sort _} {p1:α1→α2→Prop} (x1:α1) (x2:α2) (h1:p1 x1 x2):∃ x1,∃ x2,p1 x1 x2:=⟨x1,x2,h1⟩
theorem el_AAA {p1:Prop} {p2:Prop} {p3:Prop} {p4:Prop} {G:Prop} (h:p1∧p2∧p3∧p4) (k:∀ (h1:p1) (h2:p2) (h3:p3) (h4:p4),G):G:=k h.1 (h.2).1 (h.2.2).1 h.2.2.2
theorem in_AAA {p1:Prop} {p2:Prop} {p3:Prop} {p4:Prop} (h1:p1) (h2:p2) (h3:p3) (h4:p4):p1∧p2∧p3∧p4:=⟨h1,h2,h3,h4⟩
theorem el_AAE {α1:Sort _} {p1:Prop} {p2:Prop} {p3:α1→Prop} {G:Prop} (h:p1∧p2∧∃ x1,p3 x1) (k:∀ (h1:p1) (h2:p2) (x1:α1) (h3:p3 x1),G):G:=let ⟨h1,h2,x1,h3⟩:=h;k h1 h2 x1 h3
theorem in_AAE {α1:Sort _} {p1:Prop} {p2:Prop} {p3:α1→Prop} (h1:p1) (h2:p2) (x1:α1) (h3:p3 x1):p1∧p2∧∃ x1,p3 x1:=⟨h1,h2,x1,h3⟩
theorem el_EAA {α1:Sort _} {p1:α1→Prop} {p2:α1→Prop} {p3:α1→Prop} {G:Prop} (h:∃ x1,p1 x1∧p2 x1∧p3 x1) (k:∀ (x1:α1) (h1:p1 x1) (h2:p2 x1) (h3:p3 x1),G):G:=Exists.elim h fun x1 h=>k x1 h.1 (h.2).1 h.2.2
theorem in_EAA {α1:Sort _} {p1:α1→Prop} {p2:α1→Prop} {p3:α1→Prop} (x1:α1) (h1:p1 x1) (h2:p2 x1) (h3:p3 x1):∃ x1,p1 x1∧p2 x1∧p3 x1:=⟨x1,h1,h2,h3⟩
theorem el_EEA {α1:Sort _} {α2:Sort _} {p1:α1→α2→Prop} {p2:α1→α2→Prop} {G:Prop} (h:∃ x1,∃ x2,p1 x1 x2∧p2 x1 x2) (k:∀ (x1:α1) (x2:α2) (h1:p1 x1 x2) (h2:p2 x1 x2),G):G:=Exists.elim h fun x1 h=>Exists.elim h fun x2 h=>k x1 x2 h.1 h.2
theorem in_EEA {α1:Sort _} {α2:Sort _} {p1:α1→α2→Prop} {p2:α1→α2→Prop} (x1:α1) (x2:α2) (h1:p1 x1 x2) (h2:p2 x1 x2):∃ x1,∃ x2,p1 x1 x2∧p2 x1 x2:=⟨x1,x2,h1,h2⟩
theorem el_EAAA {α1:Sort _} {p1:α1→Prop} {p2:α1→Prop} {p3:α1→Prop} {p4:α1→Prop} {G:Prop} (h:∃ x1,p1 x1∧p2 x1∧p3 x1∧p4 x1) (k:∀ (x1:α1) (h1:p1 x1) (h2:p2 x1) (h3:p3 x1) (h4:p4 x1),G):G:=Exists.elim h fun x1 h=>k x1 h.1 (h.2).1 (h.2.2).1 h.2.2.2
theorem in_EAAA {α1:Sort _} {p1:α1→Prop} {p2:α1→Prop} {p3:α1→Prop} {p4:α1→Prop} (x1:α1) (h1:p1 x1) (h2:p2 x1) (h3:p3 x1) (h4:p4 x1):∃ x1,p1 x1∧p2 x1∧p3 x1∧p4 x1:=⟨x1,h1,h2,h3,h4⟩
theorem el_EAAE {α1:Sort _} {α2:Sort _} {p1:α1→Prop} {p2:α1→Prop} {p3:α1→α2→Prop} {G:Prop} (h:∃ x1,p1 x1∧p2 x1∧∃ x2,p3 x1 x2) (k:∀ (x1:α1) (h1:p1 x1) (h2:p2 x1) (x2:α2) (h3:p3 x1 x2),G):G:=let ⟨x1,h1,h2,x2,h3⟩:=h;k x1 h1 h2 x2 h3
theorem in_EAAE {α1:Sort _} {α2:Sort _} {p1:α1→Prop} {p2:α1→Prop} {p3:α1→α2→Prop} (x1:α1) (h1:p1 x1) (h2:p2 x1) (x2:α2) (h3:p3 x1 x2):∃ x1,p1 x1∧p2 x1∧∃ x2,p3 x1 x2:=⟨x1,h1,h2,x2,h3⟩
theorem el_EEAA {α1:Sort _} {α2:Sort _} {p1:α1→α2→Prop} {p2:α1→α2→Prop} {p3:α1→α2→Prop} {G:Prop} (h:∃ x1,∃ x2,p1 x1 x2∧p2 x1 x2∧p3 x1 x2) (k:∀ (x1:α1) (x2:α2) (h1:p1 x1 x2) (h2:p2 x1 x2) (h3:p3 x1 x2),G):G:=Exists.elim h fun x1 h=>Exists.elim h fun x2 h=>k x1 x2 h.1 (h.2).1 h.2.2
theorem in_EEAA {α1:Sort _} {α2:Sort _} {p1:α1→α2→Prop} {p2:α1→α2→Prop} {p3:α1→α2→Prop} (x1:α1) (x2:α2) (h1:p1 x1 x2) (h2:p2 x1 x2) (h3:p3 x1 x2):∃ x1,∃ x2,p1 x1 x2∧p2 x1 x2∧p3 x1 x2:=⟨x1,x2,h1,h2,h3⟩
theorem el_EEEA {α1:Sort _} {α2:Sort _} {α3:Sort _} {p1:α1→α2→α3→Prop} {p2:α1→α2→α3→Prop} {G:Prop} (h:∃ x1,∃ x2,∃ x3,p1 x1 x2 x3∧p2 x1 x2 x3) (k:∀ (x1:α1) (x2:α2) (x3:α3) (h1:p1 x1 x2 x3) (h2:p2 x1 x2 x3),G):G:=Exists.elim h fun x1 h=>Exists.elim h fun x2 h=>Exists.elim h fun x3 h=>k x1 x2 x3 h.1 h.2
theorem in_EEEA {α1:Sort _} {α2:Sort _} {α3:Sort _} {p1:α1→α2→α3→Prop} {p2:α1→α2→α3→Prop} (x1:α1) (x2:α2) (x3:α3) (h1:p1 x1 x2 x3) (h2:p2 x1 x2 x3):∃ x1,∃ x2,∃ x3,p1 x1 x2 x3∧p2 x1 x2 x3:=⟨x1,x2,x3,h1,h2⟩
theorem el_EEAAA {α1:Sort _} {α2:Sort _} {p1:α1→α2→Prop} {p2:α1→α2→Prop} {p3:α1→α2→Prop} {p4:α1→α2→Prop} {G:Prop} (h:∃ x1,∃ x2,p1 x1 x2∧p2 x1 x2∧p3 x1 x2∧p4 x1 x2) (k:∀ (x1:α1) (x2:α2) (h1:p1 x1 x2) (h2:p2 x1 x2) (h3:p3 x1 x2) (h4:p4 x1 x2),G):G:=Exists.elim h fun x1 h=>Exists.elim h fun x2 h=>k x1 x2 h.1 (h.2).1 (h.2.2).1 h.2.2.2
theorem in_EEAAA {α1:Sort _} {α2:Sort _} {p1:α1→α2→Prop} {p2:α1→α2→Prop} {p3:α1→α2→Prop} {p4:α1→α2→Prop} (x1:α1) (x2:α2) (h1:p1 x1 x2) (h2:p2 x1 x2) (h3:p3 x1 x2) (h4:p4 x1 x2):∃ x1,∃ x2,p1 x1 x2∧p2 x1 x2∧p3 x1 x2∧p4 x1 x2:=⟨x1,x2,h1,h2,h3,h4⟩
theorem el_EEEAA {α1:Sort _} {α2:Sort _} {α3:Sort _} {p1:α1→α2→α3→Prop} {p2:α1→α2→α3→Prop} {p3:α1→α2→α3→Prop} {G:Prop} (h:∃ x1,∃ x2,∃ x3,p1 x1 x2 x3∧p2 x1 x2 x3∧p3 x1 x2 x3) (k:∀ (x1:α1) (x2:α2) (x3:α3) (h1:p1 x1 x2 x3) (h2:p2 x1 x2 x3) (h3:p3 x1 x2 x3),G):G:=Exists.elim h fun x1 h=>Exists.elim h fun x2 h=>Exists.elim h fun x3 h=>k x1 x2 x3 h.1 (h.2).1 h.2.2
theorem in_EEEAA {α1:Sort _} {α2:Sort _} {α3:Sort _} {p1:α1→α2→α3→Prop} {p2:α1→α2→α3→Prop} {p3:α1→α2→α3→Prop} (x1:α1) (x2:α2) (x3:α3) (h1:p1 x1 x2 x3) (h2:p2 x1 x2 x3) (h3:p3 x1 x2 x3):∃ x1,∃ x2,∃ x3,p1 x1 x2 x3∧p2 x1 x2 x3∧p3 x1 x2 x3:=⟨x1,x2,x3,h1,h2,h3⟩
theorem el_EEEEA {α1:Sort _} {α2:Sort _} {α3:Sort _} {α4:Sort _} {p1:α1→α2→α3→α4→Prop} {p2:α1→α2→α3→α4→Prop} {G:Prop} (h:∃ x1,∃ x2,∃ x3,∃ x4,p1 x1 x2 x3 x4∧p2 x1 x2 x3 x4) (k:∀ (x1:α1) (x2:α2) (x3:α3) (x4:α4) (h1:p1 x1 x2 x3 x4) (h2:p2 x1 x2 x3 x4),G):G:=Exists.elim h fun x1 h=>Exists.elim h fun x2 h=>Exists.elim h fun x3 h=>Exists.elim h fun x4 h=>k x1 x2 x3 x4 h.1 h.2
theorem in_EEEEA {α1:Sort _} {α2:Sort _} {α3:Sort _} {α4:Sort _} {p1:α1→α2→α3→α4→Prop} {p2:α1→α2→α3→α4→Prop} (x1:α1) (x2:α2) (x3:α3) (x4:α4) (h1:p1 x1 x2 x3 x4) (h2:p2 x1 x2 x3 x4):∃ x1,∃ x2,∃ x3,∃ x4,p1 x1 x2 x3 x4∧p2 x1 x2 x3 x4:=⟨x1,x2,x3,x4,h1,h2⟩
theorem el_EEEAAA {α1:Sort _} {α2:Sort _} {α3:Sort _} {p1:α1→α2→α3→Prop} {p2:α1→α2→α3→Prop} {p3:α1→α2→α3→Prop} {p4:α1→α2→α3→Prop} {G:Prop} (h:∃ x1,∃ x2,∃ x3,p1 x1 x2 x3∧p2 x1 x2 x3∧p3 x1 x2 x3∧p4 x1 x2 x3) (k:∀ (x1:α1) (x2:α2) (x3:α3) (h1:p1 x1 x2 x3) (h2:p2 x1 x2 x3) (h3:p3 x1 x2 x3) (h4:p4 x1 x2 x3),G):G:=Exists.elim h fun x1 h=>Exists.elim h fun x2 h=>Exists.elim h fun x3 h=>k x1 x2 x3 h.1 (h.2).1 (h.2.2).1 h.2.2.2
theorem in_EEEAAA {α1:Sort _} {α2:Sort _} {α3:Sort _} {p1:α1→α2→α3→Prop} {p2:α1→α2→α3→Prop} {p3:α1→α2→α3→Prop} {p4:α1→α2→α3→Prop} (x1:α1) (x2:α2) (x3:α3) (h1:p1 x1 x2 x3) (h2:p2 x1 x2 x3) (h3:p3 x1 x2 x3) (h4:p4 x1 x2 x3):∃ x1,∃ x2,∃ x3,p1 x1 x2 x3∧p2 x1 x2 x3∧p3 x1 x2 x3∧p4 x1 x2 x3:=⟨x1,x2,x3,h1,h2,h3,h4⟩
theorem el_EEEEAA {α1:Sort _} {α2:Sort _} {α3:Sort _} {α4:Sort _} {p1:α1→α2→α3→α4→Prop} {p2:α1→α2→α3→α4→Prop} {p3:α1→α2→α3→α4→Prop} {G:Prop} (h:∃ x1,∃ x2,∃ x3,∃ x4,p1 x1 x2 x3 x4∧p2 x1 x2 x3 x4∧p3 x1 x2 x3 x4) (k:∀ (x1:α1) (x2:α2) (x3:α3) (x4:α4) (h1:p1 x1 x2 x3 x4) (h2:p2 x1 x2 x3 x4) (h3:p3 x1 x2 x3 x4),G):G:=Exists.elim h fun x1 h=>Exists.elim h fun x2 h=>Exists.elim h fun x3 h=>Exists.elim h fun x4 h=>k x1 x2 x3 x4 h.1 (h.2).1 h.2.2
theorem in_EEEEAA {α1:Sort _} {α2:Sort _} {α3:Sort _} {α4:Sort _} {p1:α1→α2→α3→α4→Prop} {p2:α1→α2→α3→α4→Prop} {p3:α1→α2→α3→α4→Prop} (x1:α1) (x2:α2) (x3:α3) (x4:α4) (h1:p1 x1 x2 x3 x4) (h2:p2 x1 x2 x3 x4) (h3:p3 x1 x2 x3 x4):∃ x1,∃ x2,∃ x3,∃ x4,p1 x1 x2 x3 x4∧p2 x1 x2 x3 x4∧p3 x1 x2 x3 x4:=⟨x1,x2,x3,x4,h1,h2,h3⟩
theorem el_EEEEAAAA {α1:Sort _} {α2:Sort _} {α3:Sort _} {α4:Sort _} {p1:α1→α2→α3→α4→Prop} {p2:α1→α2→α3→α4→Prop} {p3:α1→α2→α3→α4→Prop} {p4:α1→α2→α3→α4→Prop} {p5:α1→α2→α3→α4→Prop} {G:Prop} (h:∃ x1,∃ x2,∃ x3,∃ x4,p1 x1 x2 x3 x4∧p2 x1 x2 x3 x4∧p3 x1 x2 x3 x4∧p4 x1 x2 x3 x4∧p5 x1 x2 x3 x4) (k:∀ (x1:α1) (x2:α2) (x3:α3) (x4:α4) (h1:p1 x1 x2 x3 x4) (h2:p2 x1 x2 x3 x4) (h3:p3 x1 x2 x3 x4) (h4:p4 x1 x2 x3 x4) (h5:p5 x1 x2 x3 x4),G):G:=Exists.elim h fun x1 h=>Exists.elim h fun x2 h=>Exists.elim h fun x3 h=>Exists.elim h fun x4 h=>k x1 x2 x3 x4 h.1 (h.2).1 (h.2.2).1 (h.2.2.2).1 h.2.2.2.2
theorem in_EEEEAAAA {α1:Sort _} {α2:Sort _} {α3:Sort _} {α4:Sort _} {p1:α1→α2→α3→α4→Prop} {p2:α1→α2→α3→α4→Prop} {p3:α1→α2→α3→α4→Prop} {p4:α1→α2→α3→α4→Prop} {p5:α1→α2→α3→α4→Prop} (x1:α1) (x2:α2) (x3:α3) (x4:α4) (h1:p1 x1 x2 x3 x4) (h2:p2 x1 x2 x3 x4) (h3:p3 x1 x2 x3 x4) (h4:p4 x1 x2 x3 x4) (h5:p5 x1 x2 x3 x4):∃ x1,∃ x2,∃ x3,∃ x4,p1 x1 x2 x3 x4∧p2 x1 x2 x3 x4∧p3 x1 x2 x3 x4∧p4 x1 x2 x3 x4∧p5 x1 x2 x3 x4:=⟨x1,x2,x3,x4,h1,h2,h3,h4,h5⟩
theorem nin0 {α:Type _} {x:α}:x∉([]:List α):=fun h=>nomatch h
theorem ninS {α:Type _} {x a:α} {l:List α} (h:x≠a) (t:x∉l):x∉a::l:=fun q=>(List.mem_cons.mp q).elim h t
theorem nin_h {α:Type _} {x a:α} {l:List α} (h:x∉a::l):x≠a:=fun e=>h (e▸.head _)
theorem nin_t {α:Type _} {x a:α} {l:List α} (h:x∉a::l):x∉l:=fun q=>h (.tail _ q)
theorem nin_ne {α:Type _} {x a:α} (h:x≠a):x∉[a]:=ninS h nin0
theorem nd1 {α:Type _} {a:α}:[a].Nodup:=List.nodup_cons.mpr ⟨nin0,List.nodup_nil⟩
theorem ndS {α:Type _} {a:α} {l:List α} (h:a∉l) (t:l.Nodup):(a::l).Nodup:=List.nodup_cons.mpr ⟨h,t⟩
end Mine
namespace Mine
set_option genSizeOf false
set_option genInjectivity false
inductive V where
 | none
 | bool (b:Bool)
 | int (i:Int)
 | str (s:Str)
 | lst (xs:List V)
 | tup (xs:List V)
 | ref (a:Addr)
 | fn (a:Addr)
inductive O where
 | list (xs:List V)
 | dict (es:List (Int × V))
 | inst (C:Addr) (fs:List (Nat × V))
noncomputable abbrev Zone:=Addr→Option Obj
noncomputable abbrev Hp:=Addr→Option O
noncomputable abbrev tupOf (its:Array Value) (n:Nat):Obj:={ cls:=.type "tuple",data:=.seq its n }
mutual
noncomputable def VR (Z:Zone):V→Value→Prop
 | .none,y=>y=.none
 | .bool b,y=>y=.bool b
 | .int i,y=>∃ t,y=.int i t
 | .str s,y=>∃ t,y=.str s t
 | .lst xs,y=>∃ a n ys,y=.ref a∧Z a=some (PySem.W.listOf ys n)∧ys.size≤2 ^ 24∧VRs Z xs ys.toList
 | .tup xs,y=>∃ a n ys,y=.ref a∧Z a=some (tupOf ys n)∧ys.size≤2 ^ 24∧VRs Z xs ys.toList
 | .ref a,y=>y=.ref a
 | .fn a,y=>y=.ref a
noncomputable def VRs (Z:Zone):List V→List Value→Prop
 | [],ys=>ys=[]
 | x::xs,ys=>∃ y r,ys=y::r∧VR Z x y∧VRs Z xs r
end
noncomputable def put {α:Type} (f:Addr→Option α) (a:Addr) (o:α):Addr→Option α:=fun b=>if b=a then some o else f b
noncomputable def del {α:Type} (f:Addr→Option α) (a:Addr):Addr→Option α:=fun b=>if b=a then none else f b
theorem put_at {α:Type} {f:Addr→Option α} {a:Addr} {o:α}:put f a o a=some o:=if_pos rfl
theorem put_ne {α:Type} {f:Addr→Option α} {a b:Addr} {o:α} (h:b≠a):put f a o b=f b:=if_neg h
theorem del_at {α:Type} {f:Addr→Option α} {a:Addr}:del f a a=none:=if_pos rfl
theorem del_ne {α:Type} {f:Addr→Option α} {a b:Addr} (h:b≠a):del f a b=f b:=if_neg h
noncomputable def SeqExt (Z Z':Zone):Prop:=∀ a o ys n,Z a=some o→o.data=.seq ys n→Z' a=some o
noncomputable def Ext (Z Z':Zone):Prop:=∀ a o,Z a=some o→Z' a=some o
theorem Ext.seq {Z Z':Zone} (h:Ext Z Z'):SeqExt Z Z':=fun a o u0 u0 e u0=>h a o e
theorem Ext.refl (Z:Zone):Ext Z Z:=fun u0 u0 e=>e
theorem Ext.trans {Z Z' Z'':Zone} (h:Ext Z Z') (h':Ext Z' Z''):Ext Z Z'':=fun a o e=>h' a o (h a o e)
theorem Ext.put {Z:Zone} {a:Addr} {o:Obj} (h:Z a=none):Ext Z (put Z a o):=fun b o' e=>by
 by_cases q:b=a
 ·rw [q,h] at e;trivial
 ·rw [put_ne q];exact e
mutual
theorem VR.mono {Z Z':Zone} (h:SeqExt Z Z'):∀ (v:V) (y:Value),VR Z v y→VR Z' v y
 | .none,_,e=>by simpa only [VR] using e
 | .bool _,_,e=>by simpa only [VR] using e
 | .int _,_,e=>by simpa only [VR] using e
 | .str _,_,e=>by simpa only [VR] using e
 | .lst xs,y,e=>by
  simp only [VR] at e ⊢
  refine el_EEEAAA e fun a n ys e1 e2 e5 e6=>?_
  exact (in_EEEAAA a n ys e1 (h a _ ys n e2 rfl) e5 (VRs.mono h xs _ e6))
 | .tup xs,y,e=>by
  simp only [VR] at e ⊢
  refine el_EEEAAA e fun a n ys e1 e2 e5 e6=>?_
  exact (in_EEEAAA a n ys e1 (h a _ ys n e2 rfl) e5 (VRs.mono h xs _ e6))
 | .ref _,_,e=>by simpa only [VR] using e
 | .fn _,_,e=>by simpa only [VR] using e
theorem VRs.mono {Z Z':Zone} (h:SeqExt Z Z'):∀ (v:List V) (y:List Value),VRs Z v y→VRs Z' v y
 | []=>@fun u0 e=>by simpa only [VRs] using e
 | x::xs=>@fun y e=>by
  simp only [VRs] at e ⊢
  refine el_EEAA e fun y r e1 e2 e3=>?_
  exact (in_EEAA y r e1 (VR.mono h x y e2) (VRs.mono h xs r e3))
end
theorem VRs.length {Z:Zone}:∀ {xs:List V} {ys:List Value},VRs Z xs ys→xs.length=ys.length
 | [],_,e=>by simp only [VRs] at e;subst e;rfl
 | x::xs,y,e=>by
  simp only [VRs] at e
  refine el_EEAA e fun y r rf2 e2 e3=>?_;subst rf2
  simp only [List.length_cons,VRs.length e3]
theorem VRs.get {Z:Zone}:∀ {xs:List V} {ys:List Value} {i:Nat} {v:V},VRs Z xs ys→xs[i]?=some v→∃ y,ys[i]?=some y∧VR Z v y
 | [],_,_,_,_,h=>by trivial
 | x::xs,y,i,v,e,h=>by
  simp only [VRs] at e
  refine el_EEAA e fun y r rf2 e2 e3=>?_;subst rf2
  cases i with
  | zero=>simp only [List.getElem?_cons_zero,Option.some.injEq] at h;subst h;exact (in_EA y rfl e2)
  | succ i=>simp only [List.getElem?_cons_succ] at h ⊢;exact VRs.get e3 h
theorem VRs.append {Z:Zone}:∀ {xs xs':List V} {ys ys':List Value},VRs Z xs ys→VRs Z xs' ys'→VRs Z (xs++xs') (ys++ys')
 | [],_,_,_,e,h=>by simp only [VRs] at e;subst e;exact h
 | x::xs,_,_,_,e,h=>by
  simp only [VRs] at e
  refine el_EEAA e fun y r rf2 e2 e3=>?_;subst rf2
  show VRs Z (x::(xs++_)) (y::(r++_))
  simp only [VRs]
  exact (in_EEAA y _ rfl e2 (VRs.append e3 h))
theorem VRs.one {Z:Zone} {x:V} {y:Value} (h:VR Z x y):VRs Z [x] [y]:=by
 simp only [VRs];exact (in_EEAA y ([]) rfl h rfl)
theorem VRs.nil {Z:Zone}:VRs Z [] []:=by rfl
theorem VRs.cons {Z:Zone} {x:V} {y:Value} {xs:List V} {ys:List Value} (h:VR Z x y) (r:VRs Z xs ys):VRs Z (x::xs) (y::ys):=by
 simp only [VRs];exact (in_EEAA y ys rfl h r)
theorem VRs.take {Z:Zone}:∀ {xs:List V} {ys:List Value} (n:Nat),VRs Z xs ys→VRs Z (xs.take n) (ys.take n)
 | _,_,0,_=>by simp only [List.take_zero];exact .nil
 | [],_,n+1,e=>by simp only [VRs] at e;subst e;simp only [List.take_nil];exact .nil
 | x::xs,_,n+1,e=>by
  simp only [VRs] at e
  refine el_EEAA e fun y r rf2 e2 e3=>?_;subst rf2
  simp only [List.take_succ_cons]
  exact .cons e2 (VRs.take n e3)
theorem VRs.drop {Z:Zone}:∀ {xs:List V} {ys:List Value} (n:Nat),VRs Z xs ys→VRs Z (xs.drop n) (ys.drop n)
 | _,_,0,e=>by trivial
 | [],_,n+1,e=>by simp only [VRs] at e;subst e;simp only [List.drop_nil];exact .nil
 | x::xs,_,n+1,e=>by
  simp only [VRs] at e
  refine el_EEAA e fun y r rf2 e2 e3=>?_;subst rf2
  simp only [List.drop_succ_cons]
  exact VRs.drop n e3
theorem VRs.reverse {Z:Zone}:∀ {xs:List V} {ys:List Value},VRs Z xs ys→VRs Z xs.reverse ys.reverse
 | [],_,e=>by simp only [VRs] at e;subst e;exact .nil
 | x::xs,_,e=>by
  simp only [VRs] at e
  refine el_EEAA e fun y r rf2 e2 e3=>?_;subst rf2
  simp only [List.reverse_cons]
  exact .append (VRs.reverse e3) (.one e2)
noncomputable def AT:List Str:=["is_read_only","name","begv","zv","listeners","undo","text","point","props","overlays","markers","mark","is_live","ticks","codes_ticks","saved_ticks",
 "locals","syntax","file","number","room","cells","gap_start","gap_end","advances","buffer","position","rows","codes","is_folded","symbol","data"]
noncomputable def AttR (Z:Zone):List (Nat × V)→List DictEntry→Prop
 | [],es=>es=[]
 | (k,v)::fs,es=>∃ e r n t,es=e::r∧AT[k]?=some n∧e.key=.str n t∧VR Z v e.val∧AttR Z fs r
theorem AttR.mono {Z Z':Zone} (h:SeqExt Z Z'):∀ {fs:List (Nat × V)} {es:List DictEntry},AttR Z fs es→AttR Z' fs es
 | [],_,e=>e
 | (_,v)::_,_,⟨e,r,n,t,h1,h2,h3,h4,h5⟩=>⟨e,r,n,t,h1,h2,h3,VR.mono h v _ h4,AttR.mono h h5⟩
noncomputable def PairR (Z:Zone):List (Int × V)→List (Int × Value)→Prop
 | [],es=>es=[]
 | (k,v)::fs,es=>∃ y r,es=(k,y)::r∧VR Z v y∧PairR Z fs r
theorem PairR.mono {Z Z':Zone} (h:SeqExt Z Z'):∀ {fs:List (Int × V)} {es:List (Int × Value)},PairR Z fs es→PairR Z' fs es
 | [],_,e=>e
 | (_,v)::_,_,⟨y,r,h1,h2,h3⟩=>⟨y,r,h1,VR.mono h v _ h2,PairR.mono h h3⟩
noncomputable def FT:List (Addr × List Nat):=[
 (456,[20,21,22,23]),(533,[19,24,25,26]),(601,[27]),(707,[19,1,6,10,7,2,3,11,12,0,13,14,15,4,5,8,9,16,17,18]),(761,[28,29])]
noncomputable def fldOk (C:Addr) (k:Nat):List (Addr × List Nat)→Bool
 | []=>false
 | (D,l)::r=>match Nat.beq D C with
  | true=>l.any (Nat.beq k)
  | false=>fldOk C k r
noncomputable def ObjR (prog:Program) (w:World) (Z:Zone) (δ:Addr→Addr) (h:Heap) (a:Addr):O→Prop
 | .list xs=>∃ ys n,h.get? a=some (PySem.W.listOf ys n)∧ys.size≤2 ^ 24∧VRs Z xs ys.toList
 | .dict es=>∃ o kvs,h.get? a=some o∧o.IsDictOf (intKind prog w) kvs∧kvs.length≤2 ^ 20∧PairR Z es kvs
 | .inst C fs=>h.get? a=some (instObj C (δ a))∧(∃ es n,h.get? (δ a)=some (dictOf es n)∧es.length≤1000∧AttR Z fs es)∧∀ p∈fs,fldOk C p.1 FT=true
theorem neF {x a:Addr} {Fs:List Addr} (hx:x∈Fs) (ha:a∉Fs):x≠a:=fun q=>ha (q▸hx)
noncomputable def Keeps (h h':Heap):Prop:=∀ b o,h.get? b=some o→h'.get? b=some o
theorem ObjR.mono {prog:Program} {w:World} {Z Z':Zone} {δ:Addr→Addr} {h h':Heap} {a:Addr} (hz:SeqExt Z Z') :
  ∀ {o:O},(∀ x,h.get? a=some x→h'.get? a=some x)→(∀ C fs,o=.inst C fs→∀ x,h.get? (δ a)=some x→h'.get? (δ a)=some x)→ObjR prog w Z δ h a o→ObjR prog w Z' δ h' a o
 | .list _,k,_,⟨ys,n,e1,e2,e3⟩=>⟨ys,n,k _ e1,e2,VRs.mono hz _ _ e3⟩
 | .dict _,k,_,⟨o,kvs,e1,e2,e3,e4⟩=>⟨o,kvs,k _ e1,e2,e3,PairR.mono hz e4⟩
 | .inst _ _,k,k',⟨e1,⟨es,n,e2,e3,e4⟩,e5⟩=>⟨k _ e1,⟨es,n,k' _ _ rfl _ e2,e3,AttR.mono hz e4⟩,e5⟩
inductive OwnI (prog:Program) (w:World) (Fs:List Addr) (Z:Zone) (H:Hp) (h:Heap):Prop
 | mk (δ:Addr→Addr) (o1:∀ a o,H a=some o→ObjR prog w Z δ h a o∧Z a=none∧3 < a)
  (o2:∀ a a' C fs C' fs',H a=some (.inst C fs)→H a'=some (.inst C' fs')→δ a=δ a'→a=a')
  (o3:∀ a C fs,H a=some (.inst C fs)→Z (δ a)=none∧H (δ a)=none∧δ a∉Fs):OwnI prog w Fs Z H h
structure Inv (prog:Program) (w:World) (B:Heap) (Fs:List Addr) (Z:Zone) (H:Hp) (h:Heap):Prop where
 base:∀ b o,B.get? b=some o→Z b=some o
 zin:∀ b o,Z b=some o→h.get? b=some o
 frs:∀ b∈Fs,Z b=none∧H b=none∧∃ m,h.Ns b m
 own:OwnI prog w Fs Z H h
section
variable {prog:Program} {w:World} {B:Heap} {Fs:List Addr} {Z Z':Zone} {H:Hp} {h h':Heap}
theorem Inv.grow (I:Inv prog w B Fs Z H h) (k:Keeps h h'):Inv prog w B Fs Z H h':=by
 obtain ⟨b,z,f,δ,o1,o2,o3⟩:=I
 exact ⟨b,fun a o e=>k _ _ (z a o e),fun a ha=>let ⟨p,q,m,n⟩:=f a ha;⟨p,q,m,n.keeps k⟩,δ,
  fun a o e=>⟨(o1 a o e).1.mono (fun u0 u0 u0 u0 e u0=>e) (fun x=>k _ x) (fun u0 u0 u0 x=>k _ x),(o1 a o e).2⟩,o2,o3⟩
theorem ObjR.some {δ:Addr→Addr} {a:Addr}:∀ {o:O},ObjR prog w Z δ h a o→∃ x,h.get? a=some x
 | .list _,⟨_,_,e,_⟩=>⟨_,e⟩
 | .dict _,⟨_,_,e,_⟩=>⟨_,e⟩
 | .inst _ _,⟨e,_⟩=>⟨_,e⟩
theorem Inv.hNone (I:Inv prog w B Fs Z H h) {a:Addr} (ha:h.get? a=none):H a=none∧Z a=none∧a∉Fs:=by
 obtain ⟨b,z,f,δ,o1,o2,o3⟩:=I
 refine (in_AA ?_ ?_ ?_)
 ·cases q:H a with
  | none=>rfl
  | some o=>obtain ⟨x,e⟩:=(o1 a o q).1.some;rw [ha] at e;trivial
 ·cases q:Z a with
  | none=>rfl
  | some o=>have:=z a o q;rw [ha] at this;exact this.symm
 ·intro q
  refine el_AAE (f a q) fun u0 u0 m rt3=>?_;obtain ⟨o,es,ep,e,_⟩:=rt3
  rw [ha] at e;trivial
theorem size_none (h:Heap):h.get? h.objs.size=none:=by
 cases q:h.get? h.objs.size with
 | none=>rfl
 | some o=>exact absurd (Heap.lt_size q) (Nat.lt_irrefl _)
theorem Inv.freezeNew (I:Inv prog w B Fs Z H h) (k:Keeps h h') {a:Addr} {o:Obj} (ha:h.get? a=none) (ho:h'.get? a=some o):Inv prog w B Fs (put Z a o) H h':=by
 refine el_AA (I.hNone ha) fun n1 n2 n3=>?_
 have I':=I.grow k
 obtain ⟨b,z,f,δ,o1,o2,o3⟩:=I
 obtain ⟨b',z',f',-⟩:=I'
 have hδ:∀ x C fs,H x=some (.inst C fs)→δ x≠a:=fun x C fs e q=>by
  refine el_AA ((o1 x _ e).1) fun u0 rt1 u0=>?_;obtain ⟨es,n,e2,-⟩:=rt1
  rw [q,ha] at e2;trivial
 refine ⟨fun x y e=>Ext.put n2 _ _ (b x y e),fun x y e=>?_,fun x hx=>⟨?_,(f' x hx).2⟩,δ,fun x y e=>(in_AA ((o1 x y e).1.mono (Ext.put n2).seq (fun z=>k _ z) (fun u0 u0 u0 z=>k _ z)) ?_ ((o1 x y e).2.2)),o2,fun x C fs e=>⟨?_,(o3 x C fs e).2⟩⟩
 ·by_cases q:x=a
  ·subst q;rw [put_at] at e;cases e;exact ho
  ·rw [put_ne q] at e;exact z' _ _ e
 ·rw [put_ne (neF hx n3)];exact (f x hx).1
 ·rw [put_ne (fun q=>by rw [q,n1] at e;trivial)];exact (o1 x y e).2.1
 ·rw [put_ne (hδ x C fs e)];exact (o3 x C fs e).1
theorem Inv.ownNew (I:Inv prog w B Fs Z H h) (k:Keeps h h') {a:Addr} {o:O} (h3:3 < a) (ha:h.get? a=none) (ho:∀ δ,ObjR prog w Z δ h' a o) (hi:∀ C fs,o≠.inst C fs):Inv prog w B Fs Z (put H a o) h':=by
 refine el_AA (I.hNone ha) fun n1 n2 n3=>?_
 have I':=I.grow k
 obtain ⟨b,z,f,δ,o1,o2,o3⟩:=I
 obtain ⟨b',z',f',-⟩:=I'
 have hi':∀ x C fs,put H a o x=some (.inst C fs)→H x=some (.inst C fs):=fun x C fs e=>by
  by_cases q:x=a
  ·subst q;rw [put_at] at e;cases e;exact absurd rfl (hi _ _)
  ·rwa [put_ne q] at e
 have hδ:∀ x C fs,H x=some (.inst C fs)→δ x≠a:=fun x C fs e q=>by
  refine el_AA ((o1 x _ e).1) fun u0 rt1 u0=>?_;obtain ⟨es,n,e2,-⟩:=rt1
  rw [q,ha] at e2;trivial
 refine ⟨b,z',fun x hx=>(in_AA ((f x hx).1) ?_ ((f' x hx).2.2)),δ,fun x y e=>?_,fun x x' C fs C' fs' e e'=>o2 x x' C fs C' fs' (hi' _ _ _ e) (hi' _ _ _ e'),fun x C fs e=>(in_AA ((o3 x C fs (hi' _ _ _ e)).1) ?_ ((o3 x C fs (hi' _ _ _ e)).2.2))⟩
 ·rw [put_ne (neF hx n3)];exact (f x hx).2.1
 ·by_cases q:x=a
  ·subst q;rw [put_at] at e;cases e;exact (in_AA (ho δ) n2 h3)
  ·rw [put_ne q] at e;exact ⟨(o1 x y e).1.mono (fun u0 u0 u0 u0 e u0=>e) (fun z=>k _ z) (fun u0 u0 u0 z=>k _ z),(o1 x y e).2⟩
 ·rw [put_ne (hδ x C fs (hi' _ _ _ e))];exact (o3 x C fs (hi' _ _ _ e)).2.1
theorem Inv.setOwn (I:Inv prog w B Fs Z H h) {a:Addr} {o o':O} (ha:H a=some o) (hn:∀ C fs,o≠.inst C fs) (hn':∀ C fs,o'≠.inst C fs)
  (k:∀ b x,b≠a→h.get? b=some x→h'.get? b=some x) (ho:∀ δ,ObjR prog w Z δ h' a o'):Inv prog w B Fs Z (put H a o') h':=by
 obtain ⟨b,z,f,δ,o1,o2,o3⟩:=I
 have hz:Z a=none:=(o1 a o ha).2.1
 have h3:3 < a:=(o1 a o ha).2.2
 have hi':∀ x C fs,put H a o' x=some (.inst C fs)→x≠a∧H x=some (.inst C fs):=fun x C fs e=>by
  by_cases q:x=a
  ·subst q;rw [put_at] at e;cases e;exact absurd rfl (hn' _ _)
  ·rw [put_ne q] at e;exact ⟨q,e⟩
 have hδ:∀ x C fs,H x=some (.inst C fs)→δ x≠a:=fun x C fs e q=>by
  have:=(o3 x C fs e).2.1
  rw [q,ha] at this;trivial
 have hF:a∉Fs:=fun q=>by have:=(f a q).2.1;rw [ha] at this;trivial
 refine ⟨b,fun x y e=>k _ _ (fun q=>by rw [q,hz] at e;trivial) (z _ _ e),fun x hx=>(in_AA ((f x hx).1) ?_ ?_),δ,fun x y e=>?_,fun x x' C fs C' fs' e e'=>o2 x x' C fs C' fs' (hi' _ _ _ e).2 (hi' _ _ _ e').2,fun x C fs e=>(in_AA ((o3 x C fs (hi' _ _ _ e).2).1) ?_ ((o3 x C fs (hi' _ _ _ e).2).2.2))⟩
 ·rw [put_ne (neF hx hF)];exact (f x hx).2.1
 ·refine el_EEEEA ((f x hx).2.2) fun m y es ep e r=>?_
  exact (in_EEEEA m y es ep (k _ _ (neF hx hF) e) r)
 ·by_cases q:x=a
  ·subst q;rw [put_at] at e;cases e;exact (in_AA (ho δ) hz h3)
  ·rw [put_ne q] at e
   exact ⟨(o1 x y e).1.mono (fun u0 u0 u0 u0 e u0=>e) (fun z=>k _ z q) (fun C fs e' z=>k _ z (hδ x C fs (e'▸e))),(o1 x y e).2⟩
 ·rw [put_ne (hδ x C fs (hi' _ _ _ e).2)];exact (o3 x C fs (hi' _ _ _ e).2).2.1
theorem Inv.freeze (I:Inv prog w B Fs Z H h) {a:Addr} {xs:List V} (ha:H a=some (.list xs)) :
  ∃ ys n,h.get? a=some (PySem.W.listOf ys n)∧ys.size≤2 ^ 24∧VRs Z xs ys.toList∧Z a=none∧Inv prog w B Fs (put Z a (PySem.W.listOf ys n)) (del H a) h:=by
 obtain ⟨b,z,f,δ,o1,o2,o3⟩:=I
 refine el_AA (o1 a _ ha) fun rt0 hz u0=>?_;obtain ⟨ys,n,e1,e2,e3⟩:=rt0
 have hF:a∉Fs:=fun q=>by have:=(f a q).2.1;rw [ha] at this;trivial
 have hd:∀ x y,del H a x=some y→x≠a∧H x=some y:=fun x y e=>by
  by_cases q:x=a
  ·subst q;rw [del_at] at e;trivial
  ·rw [del_ne q] at e;exact ⟨q,e⟩
 refine (in_EEAAA ys n e1 e2 e3 ⟨hz,fun x y e=>Ext.put hz _ _ (b x y e),fun x y e=>?_,fun x hx=>(in_AA ?_ ?_ ((f x hx).2.2)),δ,fun x y e=>(in_AA ((o1 x y (hd _ _ e).2).1.mono (Ext.put hz).seq (fun u0 e=>e) (fun u0 u0 u0 u0 e=>e)) ?_ ((o1 x y (hd _ _ e).2).2.2)),fun x x' C fs C' fs' e e'=>o2 x x' C fs C' fs' (hd _ _ e).2 (hd _ _ e').2,fun x C fs e=>(in_AA ?_ ?_ ((o3 x C fs (hd _ _ e).2).2.2))⟩)
 ·by_cases q:x=a
  ·subst q;rw [put_at] at e;cases e;exact e1
  ·rw [put_ne q] at e;exact z _ _ e
 ·rw [put_ne (neF hx hF)];exact (f x hx).1
 ·rw [del_ne (neF hx hF)];exact (f x hx).2.1
 ·rw [put_ne (hd _ _ e).1];exact (o1 x y (hd _ _ e).2).2.1
 ·have:=(o3 x C fs (hd _ _ e).2).2.1
  rw [put_ne (fun q=>by rw [q,ha] at this;trivial)];exact (o3 x C fs (hd _ _ e).2).1
 ·have:=(o3 x C fs (hd _ _ e).2).2.1
  rw [del_ne (fun q=>by rw [q,ha] at this;trivial)];exact this
end
end Mine
namespace Mine
set_option genSizeOf false
set_option genInjectivity false
inductive Blt where
 | len | min | max | abs
noncomputable def Blt.id:Blt→String
 | .len=>"len"
 | .min=>"min"
 | .max=>"max"
 | .abs=>"abs"
inductive Op2 where
 | add | sub | mul | mod | fdiv
mutual
inductive E where
 | var (i:Nat)
 | frz (i:Nat)
 | glb (j:Nat)
 | int (i:Int)
 | str (x:Str)
 | bool (b:Bool)
 | none
 | attr (o:E) (k:Nat)
 | bin (op:Op2) (a b:E)
 | neg (i:Int)
 | cmp (op:CmpOp) (a b:E)
 | cmp2 (o1 o2:CmpOp) (a b c:E)
 | and (a b:E)
 | or (a b:E)
 | not (a:E)
 | ite (c a b:E)
 | call (j:Nat) (as:Es)
 | bcall (f:Blt) (as:Es)
 | meth (o:E) (k:Nat) (as:Es)
 | append (o x:E)
 | extend (o x:E)
 | pop (o:E)
 | pop0 (o:E)
 | listOf (x:E)
 | listR (x:E)
 | sortedD (x:E)
 | sortedK (x:E) (j:Nat) (r:E)
 | tup (es:Es)
 | lst (es:Es)
 | dict
 | idx (a i:E)
 | slc (a l u:E)
 | slcTo (a u:E)
 | slcFrom (a l:E)
 | rev (a:E)
 | compL (nm:List (Str × NameKind)) (mp:List (Option Nat)) (is:List Nat) (src el:E)
 | compR (nm:List (Str × NameKind)) (mp:List (Option Nat)) (i:Nat) (src el:E)
inductive Es where
 | nil
 | cons (e:E) (r:Es)
end
inductive S where
 | asg (i:Nat) (e:E)
 | asgT (is:List Nat) (e:E)
 | asgX (is:List Nat) (es:Es)
 | asgA (o:E) (k:Nat) (e:E)
 | asgAA (o1:E) (k1:Nat) (o2:E) (k2:Nat) (e1 e2:E)
 | setI (o i v:E)
 | setSl (o l u v:E)
 | ex (e:E)
 | ret (e:E)
 | ret0
 | raise (x:Str) (es:Es)
 | pass
 | dead
 | ifs (c:E) (t f:List S)
 | whl (c:E) (b:List S)
 | forL (is:List Nat) (one:Bool) (e:E) (b:List S)
 | forR (i:Nat) (l u:E) (b:List S)
 | forE (i j:Nat) (e:E) (b:List S)
noncomputable abbrev Loc:=List (Option V)
structure G where
 prog:Program
 w:World
 K:Frag
 B:Heap
noncomputable def FrK (Fs:List Addr) (h h':Heap):Prop:=∀ b∈Fs,∀ m,h.Ns b m→h'.Ns b m
theorem FrK.refl (Fs:List Addr) (h:Heap):FrK Fs h h:=fun u0 u0 u0 e=>e
theorem FrK.trans {Fs:List Addr} {h h' h'':Heap} (x:FrK Fs h h') (y:FrK Fs h' h''):FrK Fs h h'':=fun b hb m e=>y b hb m (x b hb m e)
theorem FrK.of_keeps {Fs:List Addr} {h h':Heap} (k:Keeps h h'):FrK Fs h h':=fun u0 u0 u0 e=>e.keeps k
noncomputable def Same (s s':Shared):Prop:=s'.gens=s.gens∧s'.drawn=s.drawn∧s'.os=s.os
theorem Same.refl (s:Shared):Same s s:=(in_AA rfl rfl rfl)
theorem Same.trans {s s' s'':Shared} (x:Same s s') (y:Same s' s''):Same s s'':=(in_AA (y.1.trans x.1) (y.2.1.trans x.2.1) (y.2.2.trans x.2.2))
structure Go (Fs:List Addr) (Z:Zone) (s:Shared) (Z':Zone) (s':Shared):Prop where
 ext:Ext Z Z'
 frk:FrK Fs s.heap s'.heap
 same:Same s s'
theorem Go.refl {Fs:List Addr} {Z:Zone} {s:Shared}:Go Fs Z s Z s:=⟨.refl _,.refl _ _,.refl _⟩
theorem Go.trans {Fs:List Addr} {Z Z' Z'':Zone} {s s' s'':Shared} (x:Go Fs Z s Z' s') (y:Go Fs Z' s' Z'' s''):Go Fs Z s Z'' s'':=⟨x.ext.trans y.ext,x.frk.trans y.frk,x.same.trans y.same⟩
inductive Exc (LS:Addr) (Z:Zone) (h:Heap) (e:Value) (sym:Str):Prop
 | mk (a:Addr) (oe:Obj) (vs:Array Value) (dx:Addr) (es:List DictEntry) (n:Nat) (t:Tok) (he:e=.ref a) (hg:h.get? a=some oe) (hc:oe.cls=.ref LS) (hd:oe.data=.fields vs) (h5:5 < vs.size) (hz:Z a=none) (hx:oe.dict=some dx) (hzx:Z dx=some (dictOf es n))
  (hs:getL ("symbol":Str) es=some (some (.str sym t))) (hT:vs[1]?=some .none∨∃ T oT ts,vs[1]?=some (.ref T)∧T≠a∧Z T=none∧h.get? T=some oT∧oT.data=.fields ts∧ts[3]?=some .none):Exc LS Z h e sym
noncomputable def cLisp:Addr:=38
noncomputable abbrev QV:=V→Hp→Prop
noncomputable abbrev QX:=Str→Hp→Prop
inductive OkE (g:G) (Fs:List Addr) (Z:Zone) (s:Shared) (Q:QV) (y:Value) (s':Shared):Prop
 | mk (v:V) (Z':Zone) (H':Hp) (go:Go Fs Z s Z' s') (inv:Inv g.prog g.w g.B Fs Z' H' s'.heap) (vr:VR Z' v y) (q:Q v H'):OkE g Fs Z s Q y s'
inductive ExE (g:G) (Fs:List Addr) (Z:Zone) (s:Shared) (X:QX) (e:Value) (s':Shared):Prop
 | mk (sym:Str) (Z':Zone) (H':Hp) (go:Go Fs Z s Z' s') (inv:Inv g.prog g.w g.B Fs Z' H' s'.heap) (ex:Exc cLisp Z' s'.heap e sym) (q:X sym H'):ExE g Fs Z s X e s'
structure Gd (A:Around) (Fs:List Addr) (n:Nat):Prop where
 frames:∃ fl,A.frames=some fl∧Fs=fl.filterMap (·.frame)∧∀ env∈fl,env.scope.kind≠.module∧∃ L,env.frame=some L
 handled:A.handled=none
 depth:A.depth+4*n+20 < recursionLimit
 units:A.units+20*n+100 < cLine
structure CallW (g:G) (n:Nat) (f:Addr) (args:List V) (Q:QV) (X:QX) (H:Hp):Prop where
 go:∀ (A:Around) (Fs:List Addr) (s:Shared) (Z:Zone) (ys:List Value),Gd A Fs n→Inv g.prog g.w g.B Fs Z H s.heap→VRs Z args ys →
  wpAny (model g.prog g.w) A (PySem.call (.ref f) ys) (OkE g Fs Z s Q) (ExE g Fs Z s X) s
structure Br (b:Bool) (P Q:Prop):Prop where
 t:b=true→P
 f:b=false→Q
structure NewL (xs:List V) (Q:QV) (H:Hp):Prop where
 sz:xs.length≤2 ^ 24
 go:Q (.lst xs) H∨∀ a,H a=none→Q (.ref a) (put H a (.list xs))
structure NewD (Q:QV) (H:Hp):Prop where
 go:∀ a,H a=none→Q (.ref a) (put H a (.dict []))
inductive LsW (a:Addr) (H:Hp) (k:List V→Prop):Prop
 | mk (xs:List V) (h:H a=some (.list xs)) (q:k xs):LsW a H k
inductive DcW (a:Addr) (H:Hp) (k:List (Int × V)→Prop):Prop
 | mk (es:List (Int × V)) (h:H a=some (.dict es)) (q:k es):DcW a H k
inductive IxW (xs:List V) (k:Int) (P:V→Prop):Prop
 | mk (j:Nat) (hj:seqIndex? k xs.length=some j) (v:V) (hv:xs[j]?=some v) (q:P v):IxW xs k P
noncomputable def refW (v:V) (P:Addr→Prop):Prop:=match v with
 | .ref a=>P a
 | _=>False
noncomputable def boolW (v:V) (P:Bool→Prop):Prop:=match v with
 | .bool b=>P b
 | _=>False
noncomputable def intW (v:V) (P:Int→Prop):Prop:=match v with
 | .int i=>P i
 | _=>False
noncomputable def lstW (v:V) (P:List V→Prop):Prop:=match v with
 | .lst xs=>P xs
 | _=>False
noncomputable def withL (v:V) (H:Hp) (k:List V→Prop):Prop:=match v with
 | .lst xs=>k xs
 | .ref a=>LsW a H k
 | _=>False
noncomputable def getF (k:Nat):List (Nat × V)→Option V
 | []=>Option.none
 | (j,v)::r=>match Nat.beq j k with
  | true=>some v
  | false=>getF k r
noncomputable def setF (k:Nat) (v:V):List (Nat × V)→List (Nat × V)
 | []=>[(k,v)]
 | (j,u)::r=>match Nat.beq j k with
  | true=>(j,v)::r
  | false=>(j,u)::setF k v r
noncomputable def cut (xs:List V) (lo hi:Option Int):List V:=(xs.drop (kms_lo lo xs.length)).take (kms_hi hi xs.length - kms_lo lo xs.length)
noncomputable def dlook (k:Int) (es:List (Int × V)):Option V:=(es.find? fun e=>decide (e.1=k)).map (·.2)
noncomputable def dput (k:Int) (v:V) (es:List (Int × V)):List (Int × V):=
 if es.any (fun e=>decide (e.1=k)) then es.map (fun e=>if e.1=k then (e.1,v) else e) else es++[(k,v)]
noncomputable def vints (l:List Int):List V:=l.map .int
noncomputable def rangeL (a b:Int):List Int:=(List.range (b - a).toNat).map fun k=>a+(k:Nat)
mutual
noncomputable def toPy:V→Option PyData
 | .none=>some .none
 | .bool b=>some (.bool b)
 | .int i=>some (.int i)
 | .str x=>some (.str x)
 | .lst xs=>(toPys xs).map .list
 | .tup xs=>(toPys xs).map .tuple
 | _=>none
noncomputable def toPys:List V→Option (List PyData)
 | []=>some []
 | x::xs=>match toPy x,toPys xs with
  | some d,some ds=>some (d::ds)
  | _,_=>none
end
inductive EqW (a b:V) (k:Bool→Prop):Prop
 | mk (da db:PyData) (h1:toPy a=some da) (h2:toPy b=some db) (h3:SeqAt.shaped da=true) (h4:SeqAt.shaped db=true) (q:k (PyData.eqv da db)):EqW a b k
inductive InW (x:V) (ys:List V) (k:Bool→Prop):Prop
 | mk (dx:PyData) (ds:List PyData) (h1:toPy x=some dx) (h2:toPys ys=some ds) (h3:PyData.canLayAll0 ds=true) (h4:dx.canLay0=true) (h5:min (PyData.depthAll ds) dx.depth≤64) (q:k (ds.any fun d=>PyData.eqv d dx)):InW x ys k
noncomputable def idxW (x:V) (k:Int) (H:Hp) (P:V→Prop):Prop:=match x with
 | .tup xs=>IxW xs k P
 | .lst xs=>IxW xs k P
 | .ref a=>(LsW a H fun xs=>IxW xs k P)∨DcW a H fun es=>∃ v,dlook k es=some v∧P v
 | _=>False
theorem refW_el {v:V} {P:Addr→Prop} (h:refW v P):∃ a,v=.ref a∧P a:=by cases v<;>first | exact (in_EA _ rfl h) | exact h.elim
theorem boolW_el {v:V} {P:Bool→Prop} (h:boolW v P):∃ a,v=.bool a∧P a:=by cases v<;>first | exact (in_EA _ rfl h) | exact h.elim
theorem intW_el {v:V} {P:Int→Prop} (h:intW v P):∃ a,v=.int a∧P a:=by cases v<;>first | exact ⟨_,rfl,h⟩ | exact h.elim
theorem lstW_el {v:V} {P:List V→Prop} (h:lstW v P):∃ a,v=.lst a∧P a:=by cases v<;>first | exact (in_EA _ rfl h) | exact h.elim
noncomputable def i2 (a b:V) (k:Int→Int→Prop):Prop:=match a with
 | .int a=>match b with
  | .int b=>k a b
  | _=>False
 | _=>False
theorem i2_el {a b:V} {P:Int→Int→Prop} (h:i2 a b P):∃ i j,a=.int i∧b=.int j∧P i j:=by cases a<;>first | exact h.elim | (cases b<;>first | exact (in_EEAA _ _ rfl rfl h) | exact h.elim)
noncomputable def eqW (a b:V) (k:Bool→Prop):Prop:=match a with
 | .int i=>match b with
  | .int j=>k (decide (i=j))
  | _=>False
 | _=>EqW a b k
noncomputable def neW (a b:V) (H:Hp) (k:Bool→Prop):Prop:=match a with
 | .int i=>match b with
  | .int j=>k (!decide (i=j))
  | _=>False
 | .ref r=>match b with
  | .lst ys=>LsW r H fun xs=>EqW (.lst xs) (.lst ys) fun c=>k (!c)
  | _=>False
 | _=>EqW a b fun c=>k (!c)
noncomputable def isNoneW (a:V) (k:Bool→Prop):Prop:=match a with
 | .none=>k true
 | .int _=>k false
 | .lst _=>k false
 | .tup _=>k false
 | .ref _=>k false
 | _=>False
noncomputable def isW (a b:V) (k:Bool→Prop):Prop:=match b with
 | .none=>isNoneW a k
 | _=>False
noncomputable def inW (x y:V) (H:Hp) (k:Bool→Prop):Prop:=match y with
 | .lst ys=>InW x ys k
 | .ref a=>LsW a H fun ys=>InW x ys k
 | _=>False
noncomputable def notInW (x y:V) (H:Hp) (k:Bool→Prop):Prop:=match x with
 | .int i=>match y with
  | .ref a=>DcW a H fun es=>k (!(dlook i es).isSome)
  | _=>False
 | _=>False
noncomputable def cmpW (op:CmpOp) (a b:V) (H:Hp) (k:Bool→Prop):Prop:=match op with
 | .Lt=>i2 a b fun a b=>k (decide (a < b))
 | .LtE=>i2 a b fun a b=>k (decide (a≤b))
 | .Gt=>i2 a b fun a b=>k (decide (a > b))
 | .GtE=>i2 a b fun a b=>k (decide (a ≥ b))
 | .Eq=>eqW a b k
 | .NotEq=>neW a b H k
 | .Is=>isW a b k
 | .IsNot=>isW a b fun c=>k (!c)
 | .In=>inW a b H k
 | .NotIn=>notInW a b H k
noncomputable def addW (a b:V) (Q:QV) (H:Hp):Prop:=match a with
 | .int i=>match b with
  | .int j=>Q (.int (i+j)) H
  | _=>False
 | _=>withL a H fun xs=>withL b H fun ys=>NewL (xs++ys) Q H
noncomputable def mulW (a b:V) (Q:QV) (H:Hp):Prop:=match a with
 | .int a=>match b with
  | .int b=>a.natAbs < 2 ^ 200∧b.natAbs < 2 ^ 200∧Q (.int (a*b)) H
  | _=>False
 | .lst xs=>match xs,b with
  | [x],.int b=>b≤2 ^ 20∧-(2 ^ 63)≤b∧NewL (List.replicate b.toNat x) Q H
  | _,_=>False
 | _=>False
noncomputable def binW (op:Op2) (a b:V) (Q:QV) (H:Hp):Prop:=match op with
 | .add=>addW a b Q H
 | .sub=>i2 a b fun a b=>Q (.int (a - b)) H
 | .mul=>mulW a b Q H
 | .mod=>i2 a b fun a b=>b≠0∧Q (.int (a.fmod b)) H
 | .fdiv=>i2 a b fun a b=>b≠0∧a.natAbs < 2 ^ 200∧b.natAbs < 2 ^ 200∧Q (.int (a.fdiv b)) H
noncomputable def lenW (v:V) (Q:QV) (H:Hp):Prop:=match v with
 | .ref a=>(LsW a H fun xs=>Q (.int (xs.length:Int)) H)∨(DcW a H fun es=>Q (.int (es.length:Int)) H)
 | .lst xs=>Q (.int (xs.length:Int)) H
 | .tup xs=>Q (.int (xs.length:Int)) H
 | _=>False
noncomputable def absW (v:V) (Q:QV) (H:Hp):Prop:=match v with
 | .int a=>Q (.int (if a < 0 then -a else a)) H
 | _=>False
noncomputable def one1 (vs:List V) (P:V→Prop):Prop:=match vs with
 | [v]=>P v
 | _=>False
noncomputable def two2 (vs:List V) (P:V→V→Prop):Prop:=match vs with
 | [u,v]=>P u v
 | _=>False
noncomputable def bltW (f:Blt) (vs:List V) (Q:QV) (H:Hp):Prop:=match f with
 | .len=>one1 vs fun v=>lenW v Q H
 | .min=>two2 vs fun u v=>i2 u v fun a b=>Q (.int (if b < a then b else a)) H
 | .max=>two2 vs fun u v=>i2 u v fun a b=>Q (.int (if b > a then b else a)) H
 | .abs=>one1 vs fun v=>absW v Q H
structure SortW (g:G) (n:Nat) (f:Addr) (xs:List V) (r:Bool) (Q:QV) (H:Hp):Prop where
 go:∀ (A:Around) (Fs:List Addr) (s:Shared) (Z:Zone) (y:Value),Gd A Fs n→Inv g.prog g.w g.B Fs Z H s.heap→VR Z (.lst xs) y →
  wpAny (model g.prog g.w) A (PySem.call (.builtin "sorted") [y] [(Str.ofString "key",.ref f),(Str.ofString "reverse",.bool r)]) (OkE g Fs Z s Q) (fun u0 u0=>False) s
noncomputable def loopW (body:V→Loc→(Loc→Hp→Prop)→Hp→Prop):List V→Loc→(Loc→Hp→Prop)→Hp→Prop
 | [],m,N,H=>N m H
 | x::xs,m,N,H=>body x m (fun m' H'=>loopW body xs m' N H') H
noncomputable def compW (el:V→QV→Hp→Prop) (a:Addr):List V→(Hp→Prop)→Hp→Prop
 | [],N,H=>N H
 | x::xs,N,H=>el x (fun v H'=>LsW a H' fun vs=>vs.length < 2 ^ 20∧compW el a xs N (put H' a (.list (vs++[v])))) H
noncomputable def compE (a:Addr) (Q:QV) (H:Hp):Prop:=Q (.ref a) H∨LsW a H fun vs=>Q (.lst vs) (del H a)
noncomputable def setEach:List Nat→List V→Loc→Option Loc
 | [],[],m=>some m
 | i::is,v::vs,m=>setEach is vs (m.set i (some v))
 | _,_,_=>none
noncomputable def takeIt (is:List Nat) (one:Bool) (v:V) (m:Loc) (k:Loc→Prop):Prop:=match one,v with
 | true,v=>match is with
  | [i]=>k (m.set i (some v))
  | _=>False
 | false,.tup vs=>match setEach is vs m with
  | some m'=>k m'
  | none=>False
 | false,_=>False
end Mine
namespace Mine
noncomputable def cGap:Addr:=456
noncomputable def cMarker:Addr:=533
noncomputable def cMarkers:Addr:=601
noncomputable def cBuffer:Addr:=707
noncomputable def cLit:Addr:=761
noncomputable def GT:List (Str × V):=[
 (Str.ofString "LONGEST",V.int 4194304),(Str.ofString "NEWLINE",V.int 10),(Str.ofString "TAB_rectcols",V.int 9),(Str.ofString "BLANK",V.int 32),(Str.ofString "TAB_sortrecords",V.int 9),(Str.ofString "ROW_END_sortrecords",V.int 10),(Str.ofString "DASH",V.int 45),(Str.ofString "ZERO",V.int 48),(Str.ofString "NINE",V.int 57),(Str.ofString "ROW_END_sort",V.int 10),
 (Str.ofString "need_writable",V.fn 48),(Str.ofString "need_room",V.fn 55),(Str.ofString "reached",V.fn 62),(Str.ofString "tell_ahead",V.fn 69),(Str.ofString "tell_behind",V.fn 76),(Str.ofString "text_out",V.fn 83),(Str.ofString "text_in",V.fn 90),(Str.ofString "hung_out",V.fn 97),(Str.ofString "hung_in",V.fn 104),(Str.ofString "put_in",V.fn 111),
 (Str.ofString "insert_at",V.fn 119),(Str.ofString "insert",V.fn 127),(Str.ofString "delete",V.fn 134),(Str.ofString "replace",V.fn 142),(Str.ofString "line_start",V.fn 149),(Str.ofString "line_end",V.fn 156),(Str.ofString "column_behind",V.fn 163),(Str.ofString "column_at",V.fn 170),(Str.ofString "downcase",V.fn 177),(Str.ofString "fold",V.fn 184),
 (Str.ofString "downcased",V.fn 189),(Str.ofString "rows_between",V.fn 196),(Str.ofString "is_gap",V.fn 203),(Str.ofString "fields_between",V.fn 210),(Str.ofString "field_at",V.fn 217),(Str.ofString "number_at",V.fn 224),(Str.ofString "paragraphs_between",V.fn 231),(Str.ofString "ordered",V.fn 238),(Str.ofString "record_key",V.fn 245),(Str.ofString "put_in_order",V.fn 252),
 (Str.ofString "row_records",V.fn 259),(Str.ofString "paragraph_records",V.fn 266),(Str.ofString "field_records",V.fn 273),(Str.ofString "number_records",V.fn 280),(Str.ofString "column_records",V.fn 287),(Str.ofString "rows_turned",V.fn 294),(Str.ofString "without_doubles",V.fn 299),(Str.ofString "put_ordered",V.fn 306),(Str.ofString "sort_rows",V.fn 313),(Str.ofString "sort_paragraphs",V.fn 320),
 (Str.ofString "need_records",V.fn 327),(Str.ofString "need_field",V.fn 334),(Str.ofString "sort_fields",V.fn 341),(Str.ofString "sort_number_fields",V.fn 348),(Str.ofString "sort_columns",V.fn 355),(Str.ofString "reverse_region",V.fn 362),(Str.ofString "delete_double_rows",V.fn 369),(Str.ofString "GapText",V.fn 456),(Str.ofString "Marker",V.fn 533),(Str.ofString "Markers",V.fn 601),
 (Str.ofString "Buffer",V.fn 707),(Str.ofString "Literal",V.fn 761),(Str.ofString "how_many",V.fn 772),(Str.ofString "row_matches",V.fn 779),(Str.ofString "rows_by",V.fn 786),(Str.ofString "keep_lines",V.fn 793),(Str.ofString "flush_lines",V.fn 800),(Str.ofString "narrow",V.fn 807),(Str.ofString "set_marker",V.fn 814),(Str.ofString "_law_draw",V.fn 821),
 (Str.ofString "_law_buffer",V.fn 828),(Str.ofString "_law_done",V.fn 835),(Str.ofString "_law_outcome",V.fn 842),(Str.ofString "LispSignal",V.fn 38)]
noncomputable def MN:List Str:=["__init__","size","code","codes","move_gap","widen_gap","insert","delete","numbers","put","inserted","deleted","replaced","begin","end","code_at","goto","touch","fits","next"]
noncomputable def MT:List (Addr × Nat × Addr):=[
 (456,0,383),(456,1,390),(456,2,397),(456,3,404),(456,4,411),(456,5,418),(456,6,425),(456,7,432),
 (533,0,509),(601,0,549),(601,8,556),(601,9,563),(601,10,584),(601,11,591),(601,12,598),
 (707,0,620),(707,13,641),(707,14,648),(707,1,655),(707,15,662),(707,3,669),(707,16,676),(707,17,704),
 (761,0,723),(761,18,730),(761,19,737)]
noncomputable def methOf (C:Addr) (k:Nat):List (Addr × Nat × Addr)→Option Addr
 | []=>none
 | (D,j,f)::r=>match Nat.beq D C&&Nat.beq j k with
  | true=>some f
  | false=>methOf C k r
noncomputable def cLoc (mp:List (Option Nat)) (m:Loc):Loc:=mp.map fun
 | some i=>(m[i]?).join
 | none=>none
inductive AtW (a:Addr) (k:Nat) (Q:QV) (H:Hp):Prop
 | mk (C:Addr) (fs:List (Nat × V)) (h:H a=some (.inst C fs)) (hf:fldOk C k FT=true) (u:V) (hg:getF k fs=some u) (q:Q u H):AtW a k Q H
inductive MeW (a:Addr) (j:Nat) (H:Hp) (P:Addr→Prop):Prop
 | mk (C:Addr) (fs:List (Nat × V)) (h:H a=some (.inst C fs)) (f:Addr) (hf:methOf C j MT=some f) (q:P f):MeW a j H P
mutual
noncomputable def wE (g:G):Nat→E→Loc→QV→QX→Hp→Prop
 | n,.var i,m,Q,_,H=>match m[i]? with
  | some (some v)=>Q v H
  | _=>False
 | n,.frz i,m,Q,_,H=>match m[i]? with
  | some (some (.ref a))=>LsW a H fun xs=>Q (.lst xs) (del H a)
  | _=>False
 | n,.glb j,_,Q,_,H=>match GT[j]? with
  | some (_,v)=>Q v H
  | none=>False
 | n,.int i,_,Q,_,H=>Q (.int i) H
 | n,.str x,_,Q,_,H=>Q (.str x) H
 | n,.bool b,_,Q,_,H=>Q (.bool b) H
 | n,.none,_,Q,_,H=>Q .none H
 | n,.neg i,_,Q,_,H=>Q (.int (-i)) H
 | n,.attr o k,m,Q,X,H=>wE g n o m (fun v H'=>refW v fun a=>AtW a k Q H') X H
 | n,.bin op a b,m,Q,X,H=>wE g n a m (fun x H1=>wE g n b m (fun y H2=>binW op x y Q H2) X H1) X H
 | n,.cmp op a b,m,Q,X,H=>wE g n a m (fun x H1=>wE g n b m (fun y H2=>cmpW op x y H2 fun c=>Q (.bool c) H2) X H1) X H
 | n,.cmp2 o1 o2 a b c,m,Q,X,H=>wE g n a m (fun x H1=>wE g n b m (fun y H2=>cmpW o1 x y H2 fun t=>Br t
   (wE g n c m (fun z H3=>cmpW o2 y z H3 fun u=>Q (.bool u) H3) X H2) (Q (.bool false) H2)) X H1) X H
 | n,.and a b,m,Q,X,H=>wE g n a m (fun x H1=>boolW x fun t=>Br t (wE g n b m Q X H1) (Q (.bool false) H1)) X H
 | n,.or a b,m,Q,X,H=>wE g n a m (fun x H1=>boolW x fun t=>Br t (Q (.bool true) H1) (wE g n b m Q X H1)) X H
 | n,.not a,m,Q,X,H=>wE g n a m (fun x H1=>boolW x fun t=>Q (.bool (!t)) H1) X H
 | n,.ite c a b,m,Q,X,H=>wE g n c m (fun x H1=>boolW x fun t=>Br t (wE g n a m Q X H1) (wE g n b m Q X H1)) X H
 | n,.call j as,m,Q,X,H=>match n with
  | 0=>False
  | k+1=>match GT[j]? with
   | some (_,.fn f)=>wEs g (k+1) as m (fun vs H1=>CallW g k f vs Q X H1) X H
   | _=>False
 | n,.bcall f as,m,Q,X,H=>wEs g n as m (fun vs H1=>bltW f vs Q H1) X H
 | n,.meth o j as,m,Q,X,H=>match n with
  | 0=>False
  | k+1=>wE g (k+1) o m (fun v H1=>refW v fun a=>MeW a j H1 fun f=>wEs g (k+1) as m (fun vs H2=>CallW g k f (.ref a::vs) Q X H2) X H1) X H
 | n,.append o x,m,Q,X,H=>wE g n o m (fun v H1=>refW v fun a=>(∃ xs,H1 a=some (.list xs))∧wE g n x m (fun y H2=>LsW a H2 fun xs=>xs.length < 2 ^ 20∧Q .none (put H2 a (.list (xs++[y])))) X H1) X H
 | n,.extend o x,m,Q,X,H=>wE g n o m (fun v H1=>refW v fun a=>(∃ xs,H1 a=some (.list xs))∧wE g n x m (fun y H2=>lstW y fun ys=>LsW a H2 fun xs=>xs.length+ys.length < 2 ^ 20∧Q .none (put H2 a (.list (xs++ys)))) X H1) X H
 | n,.pop o,m,Q,X,H=>wE g n o m (fun v H1=>refW v fun a=>∃ xs y,H1 a=some (.list (xs++[y]))∧Q y (put H1 a (.list xs))) X H
 | n,.pop0 o,m,Q,X,H=>wE g n o m (fun v H1=>refW v fun a=>∃ xs y,H1 a=some (.list (y::xs))∧Q y (put H1 a (.list xs))) X H
 | n,.listOf x,m,Q,X,H=>wE g n x m (fun v H1=>withL v H1 fun xs=>NewL xs Q H1) X H
 | n,.listR x,m,Q,X,H=>wE g n x m (fun v H1=>intW v fun k=>0≤k∧NewL ((rangeL 0 k).map .int) Q H1) X H
 | n,.sortedD x,m,Q,X,H=>wE g n x m (fun v H1=>refW v fun a=>∃ es,H1 a=some (.dict es)∧es.length < 64∧∃ ks,ks.Perm (es.map (·.1))∧ks.Pairwise (·≤·)∧NewL (vints ks) Q H1) X H
 | n,.sortedK x j r,m,Q,X,H=>match n with
  | 0=>False
  | k+1=>wE g (k+1) x m (fun v H1=>wE g (k+1) r m (fun b H2=>match v,GT[j]?,b with
   | .lst xs,some (_,.fn f),.bool b=>SortW g k f xs b Q H2
   | _,_,_=>False) X H1) X H
 | n,.tup es,m,Q,X,H=>wEs g n es m (fun vs H1=>vs.length≤2 ^ 20∧Q (.tup vs) H1) X H
 | n,.lst es,m,Q,X,H=>wEs g n es m (fun vs H1=>NewL vs Q H1) X H
 | n,.dict,_,Q,_,H=>NewD Q H
 | n,.idx a i,m,Q,X,H=>wE g n a m (fun x H1=>wE g n i m (fun y H2=>intW y fun k=>idxW x k H2 fun v=>Q v H2) X H1) X H
 | n,.slc a l u,m,Q,X,H=>wE g n a m (fun x H1=>wE g n l m (fun y H2=>wE g n u m (fun z H3=>i2 y z fun i j=>withL x H3 fun xs=>NewL (cut xs (some i) (some j)) Q H3) X H2) X H1) X H
 | n,.slcTo a u,m,Q,X,H=>wE g n a m (fun x H1=>wE g n u m (fun z H3=>intW z fun j=>withL x H3 fun xs=>NewL (cut xs none (some j)) Q H3) X H1) X H
 | n,.slcFrom a l,m,Q,X,H=>wE g n a m (fun x H1=>wE g n l m (fun z H3=>intW z fun i=>withL x H3 fun xs=>NewL (cut xs (some i) none) Q H3) X H1) X H
 | n,.rev a,m,Q,X,H=>wE g n a m (fun x H1=>withL x H1 fun xs=>NewL xs.reverse Q H1) X H
 | n,.compL _ mp is src el,m,Q,X,H=>match n with
  | 0=>False
  | k+1=>wE g (k+1) src m (fun x H1=>lstW x fun xs=>∀ a,H1 a=none→compW (fun v Q' H'=>takeIt is (is.length==1) v (cLoc mp m) fun m'=>wE g k el m' Q' (fun u0 u0=>False) H') a xs (compE a Q) (put H1 a (.list []))) X H
 | n,.compR _ mp i src el,m,Q,X,H=>match n with
  | 0=>False
  | k+1=>wE g (k+1) src m (fun x H1=>intW x fun c=>c.natAbs < 2 ^ 60∧∀ a,H1 a=none→compW (fun v Q' H'=>wE g k el ((cLoc mp m).set i (some v)) Q' (fun u0 u0=>False) H') a (vints (rangeL 0 c)) (compE a Q) (put H1 a (.list []))) X H
noncomputable def wEs (g:G):Nat→Es→Loc→(List V→Hp→Prop)→QX→Hp→Prop
 | n,.nil,_,Q,_,H=>Q [] H
 | n,.cons e r,m,Q,X,H=>wE g n e m (fun v H1=>wEs g n r m (fun vs H2=>Q (v::vs) H2) X H1) X H
end
end Mine
namespace Mine
noncomputable abbrev QN:=Loc→Hp→Prop
inductive SaW (a:Addr) (k:Nat) (u:V) (H:Hp) (N:Hp→Prop):Prop
 | mk (C:Addr) (fs:List (Nat × V)) (h:H a=some (.inst C fs)) (hf:fldOk C k FT=true) (hl:fs.length < 100) (q:N (put H a (.inst C (setF k u fs)))):SaW a k u H N
noncomputable def setAtt (k:Nat) (u v:V) (H:Hp) (N:Hp→Prop):Prop:=refW v fun a=>SaW a k u H N
noncomputable def spliceL (xs ys:List V) (l u:Int):List V:=xs.take (kms_lo (some l) xs.length)++ys++xs.drop (max (kms_lo (some l) xs.length) (kms_hi (some u) xs.length))
structure WhlW (F:(Loc→Hp→Prop)→Loc→Hp→Prop) (m:Loc) (H:Hp):Prop where
 go:∀ P:Loc→Hp→Prop,(∀ m H,F P m H→P m H)→P m H
mutual
noncomputable def wS (g:G):Nat→S→Loc→QN→QV→QX→Hp→Prop
 | n,.asg i e,m,N,_,X,H=>wE g n e m (fun v H1=>N (m.set i (some v)) H1) X H
 | n,.asgT is e,m,N,_,X,H=>wE g n e m (fun v H1=>takeIt is false v m fun m'=>N m' H1) X H
 | n,.asgX is es,m,N,_,X,H=>wEs g n es m (fun vs H1=>match setEach is vs m with
  | some m'=>N m' H1
  | none=>False) X H
 | n,.asgA o k e,m,N,_,X,H=>wE g n e m (fun u H1=>wE g n o m (fun v H2=>setAtt k u v H2 (N m)) X H1) X H
 | n,.asgAA o1 k1 o2 k2 e1 e2,m,N,_,X,H=>wE g n e1 m (fun u1 H1=>wE g n e2 m (fun u2 H2=>wE g n o1 m (fun v1 H3=>setAtt k1 u1 v1 H3 fun H4=>wE g n o2 m (fun v2 H5=>setAtt k2 u2 v2 H5 (N m)) X H4) X H2) X H1) X H
 | n,.setI o i v,m,N,_,X,H=>wE g n v m (fun u H1=>wE g n o m (fun w H2=>wE g n i m (fun k H3=>refW w fun a=>intW k fun k=>DcW a H3 fun es=>es.length < 1000∧N m (put H3 a (.dict (dput k u es)))) X H2) X H1) X H
 | n,.setSl o l u v,m,N,_,X,H=>wE g n v m (fun y H1=>wE g n o m (fun w H2=>wE g n l m (fun i H3=>wE g n u m (fun j H4=>refW w fun a=>i2 i j fun i j=>lstW y fun ys=>LsW a H4 fun xs=>xs.length+ys.length < 2 ^ 20∧N m (put H4 a (.list (spliceL xs ys i j)))) X H3) X H2) X H1) X H
 | n,.ex e,m,N,_,X,H=>wE g n e m (fun u0 H1=>N m H1) X H
 | n,.ret e,m,_,R,X,H=>wE g n e m R X H
 | _,.ret0,_,_,R,_,H=>R .none H
 | n,.raise x es,m,_,_,X,H=>wEs g n es m (fun vs H1=>vs.length≤2 ^ 20∧X x H1) X H
 | _,.pass,m,N,_,_,H=>N m H
 | _,.dead,_,_,_,_,_=>False
 | n,.ifs c t f,m,N,R,X,H=>wE g n c m (fun x H1=>boolW x fun b=>Br b (wSs g n t m N R X H1) (wSs g n f m N R X H1)) X H
 | n,.whl c b,m,N,R,X,H=>match n with
  | 0=>False
  | k+1=>WhlW (fun P m H=>wE g k c m (fun x H1=>boolW x fun t=>Br t (wSs g k b m P R (fun u0 u0=>False) H1) (N m H1)) (fun u0 u0=>False) H) m H
 | n,.forL is one e b,m,N,R,X,H=>match n with
  | 0=>False
  | k+1=>wE g (k+1) e m (fun x H1=>lstW x fun xs=>loopW (fun v m' N' H'=>takeIt is one v m' fun m''=>wSs g k b m'' N' R (fun u0 u0=>False) H') xs m N H1) X H
 | n,.forR i l u b,m,N,R,X,H=>match n with
  | 0=>False
  | k+1=>wE g (k+1) l m (fun x H1=>wE g (k+1) u m (fun y H2=>i2 x y fun x y=>x.natAbs < 2 ^ 60∧y.natAbs < 2 ^ 60∧loopW (fun v m' N' H'=>wSs g k b (m'.set i (some v)) N' R (fun u0 u0=>False) H') (vints (rangeL x y)) m N H2) X H1) X H
 | n,.forE i j e b,m,N,R,X,H=>match n with
  | 0=>False
  | k+1=>wE g (k+1) e m (fun x H1=>lstW x fun xs=>loopW (fun v m' N' H'=>match v with
    | .tup [u,w]=>wSs g k b ((m'.set i (some u)).set j (some w)) N' R (fun u0 u0=>False) H'
    | _=>False) (xs.mapIdx fun p v=>.tup [.int (p:Nat),v]) m N H1) X H
noncomputable def wSs (g:G):Nat→List S→Loc→QN→QV→QX→Hp→Prop
 | _,[],m,N,_,_,H=>N m H
 | n,s::r,m,N,R,X,H=>wS g n s m (fun m' H'=>wSs g n r m' N R X H') R X H
end
end Mine
namespace Mine
structure EnvOk (env:Env) (nm:List (Str × NameKind)):Prop where
 sc:env.scope.names=nm
 kd:env.scope.kind=.function
 gl:env.globals=mainGlobals
 bl:env.builtins=builtinsNs
 nd:(nm.map (·.1)).Nodup
 ce:∀ x,(x,NameKind.cell)∈nm→(env.cells.lookup x).isSome=true
 db:∀ p∈nm,(p.1==("__debug__":Str))=false∧(p.1==("__classdict__":Str))=false
structure LocR (nm:List (Str × NameKind)) (env:Env) (m:Loc) (Fs:List Addr) (Z:Zone) (h:Heap):Prop where
 ns:∃ m',h.Ns env.locals m'∧∀ (i:Nat) x v,nm[i]?=some (x,.local)→m[i]?=some (some v)→∃ y,m' x=some y∧VR Z v y
 cells:∀ (i:Nat) x k v,nm[i]?=some (x,k)→(k=.cell∨k=.free)→m[i]?=some (some v)→∃ c o y,env.cells.lookup x=some c∧Z c=some o∧o.data=.cell (some y)∧VR Z v y
 loc:env.locals∈Fs∨∃ o,Z env.locals=some o
 cex:∀ x c,env.cells.lookup x=some c→∃ o u,Z c=some o∧o.data=.cell u
theorem lookup_get {α:Type}:∀ {l:List (Str × α)} {i:Nat} {x:Str} {k:α},(l.map (·.1)).Nodup→l[i]?=some (x,k)→l.lookup x=some k
 | [],_,_,_,_,e=>by trivial
 | (y,u)::r,0,x,k,_,e=>by
  simp only [List.getElem?_cons_zero,Option.some.injEq,Prod.mk.injEq] at e
  obtain ⟨rfl,rfl⟩:=e
  simp [List.lookup]
 | (y,u)::r,i+1,x,k,nd,e=>by
  simp only [List.getElem?_cons_succ] at e
  simp only [List.map_cons,List.nodup_cons] at nd
  have hx:x∈r.map (·.1):=List.mem_map.mpr (in_EA (x,k) (List.mem_of_getElem? e) rfl)
  have hne:(x==y)=false:=by
   cases q:x==y with
   | false=>rfl
   | true=>exact absurd (beq_iff_eq.mp q▸hx) nd.1
  rw [List.lookup_cons,hne]
  exact lookup_get nd.2 e
theorem lookup_mem {α:Type} {l:List (Str × α)} {x:Str} {k:α} (nd:(l.map (·.1)).Nodup) (h:(x,k)∈l):l.lookup x=some k:=by
 obtain ⟨i,hi,e⟩:=List.getElem_of_mem h
 exact lookup_get nd (i:=i) (by rw [List.getElem?_eq_getElem hi,e])
noncomputable def BT:List (Str × Value):=[(Str.ofString "len",.builtin "len"),(Str.ofString "min",.builtin "min"),(Str.ofString "max",.builtin "max"),(Str.ofString "abs",.builtin "abs"),(Str.ofString "sorted",.builtin "sorted"),
 (Str.ofString "list",.type "list"),(Str.ofString "range",.type "range"),(Str.ofString "enumerate",.type "enumerate")]
structure GlobOk (g:G):Prop where
 kin:g.K.In g.B
 kp:∀ f,(∃ x,(x,V.fn f)∈GT)∨(∃ C k,methOf C k MT=some f)→keepIn g.K (.ref f)=true
 lim:g.B.NoLimit
 gt:∃ mg mb,g.B.Ns mainGlobals mg∧g.B.Ns builtinsNs mb∧(∀ (j:Nat) x v,GT[j]?=some (x,v)→∃ y,(∀ Z,VR Z v y)∧mg x=some y)∧∀ x y,(x,y)∈BT→mg x=none∧mb x=some y
 meth:∀ C k f name,methOf C k MT=some f→MN[k]?=some name→findIn g.K (.ref C) name=some (some (.ref f))∧isFn g.K (.ref f)=true∧plainGet g.K C name=true∧∀ j x,AT[j]?=some x→fldOk C j FT=true→x≠name
 fld:∀ C k name,fldOk C k FT=true→AT[k]?=some name→findIn g.K (.ref C) name=some none∧plainGet g.K C name=true∧hasDictIn g.K C=true ∧
  findIn g.K (.ref C) "__setattr__"=some (some (.builtin "object.__setattr__"))∧plainOver g.K C=true
section
variable {g:G} {Fs:List Addr} {Z Z1:Zone} {H:Hp} {s s1 s':Shared} {Q:QV} {X:QX} {y:Value}
theorem OkE.step (go:Go Fs Z s Z1 s1) (h:OkE g Fs Z1 s1 Q y s'):OkE g Fs Z s Q y s':=
 let ⟨v,Z',H',a,b,c,d⟩:=h;⟨v,Z',H',go.trans a,b,c,d⟩
theorem ExE.step (go:Go Fs Z s Z1 s1) (h:ExE g Fs Z1 s1 X y s'):ExE g Fs Z s X y s':=
 let ⟨v,Z',H',a,b,c,d⟩:=h;⟨v,Z',H',go.trans a,b,c,d⟩
theorem OkE.here {v:V} {t:Nat} (I:Inv g.prog g.w g.B Fs Z H s.heap) (vr:VR Z v y) (q:Q v H):OkE g Fs Z s Q y { s with toks:=t }:=
 ⟨v,Z,H,⟨.refl _,.refl _ _,(in_AA rfl rfl rfl)⟩,I,vr,q⟩
theorem OkE.grown {v:V} {t:Nat} {h':Heap} (k:Keeps s.heap h') (I:Inv g.prog g.w g.B Fs Z H s.heap) (vr:VR Z v y) (q:Q v H):OkE g Fs Z s Q y { s with heap:=h',toks:=t }:=
 ⟨v,Z,H,⟨.refl _,.of_keeps k,⟨rfl,rfl,rfl⟩⟩,I.grow k,vr,q⟩
theorem keeps_push (h:Heap) (o:Obj):Keeps h (h.push o):=fun u0 u0 e=>Heap.get?_push_of_some o e
theorem Keeps.trans {h h' h'':Heap} (x:Keeps h h') (y:Keeps h' h''):Keeps h h'':=fun b o e=>y b o (x b o e)
theorem Keeps.refl (h:Heap):Keeps h h:=fun u0 u0 e=>e
theorem get_ge {h:Heap} {a:Addr} (q:h.objs.size≤a):h.get? a=none:=by
 cases e:h.get? a with
 | none=>rfl
 | some o=>exact absurd (Heap.lt_size e) (Nat.not_lt.mpr q)
theorem Inv.three {h:Heap} {a:Addr} (I:Inv g.prog g.w g.B Fs Z H h) (B3:∃ m,g.B.Ns 3 m) (q:h.objs.size≤a):3 < a:=by
 refine el_EEEEA B3 fun m o es ep e u0=>?_
 exact Nat.lt_of_lt_of_le (Heap.lt_size (I.zin _ _ (I.base _ _ e))) q
theorem NewL.run {xs:List V} {ys:Array Value} {a:Addr} {h':Heap} {t c:Nat} (w:NewL xs Q H) (I:Inv g.prog g.w g.B Fs Z H s.heap) (vs:VRs Z xs ys.toList) (k:Keeps s.heap h') (hge:s.heap.objs.size≤a) (B3:∃ m,g.B.Ns 3 m)
  (ho:h'.get? a=some (PySem.W.listOf ys c)):OkE g Fs Z s Q (.ref a) { s with heap:=h',toks:=t }:=by
 obtain ⟨sz,go⟩:=w
 have hsz:ys.size≤2 ^ 24:=by rw [← Array.length_toList,← vs.length];exact sz
 have ha:=get_ge hge
 have h3:=I.three B3 hge
 refine el_AA (I.hNone ha) fun hH hZ u0=>?_
 rcases go with q | q
 ·have e:=Ext.put (o:=PySem.W.listOf ys c) hZ
  refine ⟨.lst xs,put Z a (PySem.W.listOf ys c),H,⟨e,.of_keeps k,(in_AA rfl rfl rfl)⟩,I.freezeNew k ha ho,?_,q⟩
  simp only [VR]
  exact (in_EEEAAA a c ys rfl put_at hsz (VRs.mono e.seq _ _ vs))
 ·refine ⟨.ref a,Z,put H a (.list xs),⟨.refl _,.of_keeps k,(in_AA rfl rfl rfl)⟩,I.ownNew k h3 ha (fun u0=>(in_EEAA ys c ho hsz vs)) (fun u0 u0 q=>by trivial),?_,q a hH⟩
  rfl
theorem tup_run {xs:List V} {ys:Array Value} {a:Addr} {h':Heap} {t:Nat} (q:Q (.tup xs) H) (sz:xs.length≤2 ^ 24) (I:Inv g.prog g.w g.B Fs Z H s.heap) (vs:VRs Z xs ys.toList) (k:Keeps s.heap h') (hge:s.heap.objs.size≤a)
  (ho:h'.get? a=some (tupOf ys 0)):OkE g Fs Z s Q (.ref a) { s with heap:=h',toks:=t }:=by
 have hsz:ys.size≤2 ^ 24:=by rw [← Array.length_toList,← vs.length];exact sz
 have ha:=get_ge hge
 refine el_AA (I.hNone ha) fun hH hZ u0=>?_
 have e:=Ext.put (o:=tupOf ys 0) hZ
 refine ⟨.tup xs,put Z a (tupOf ys 0),H,⟨e,.of_keeps k,(in_AA rfl rfl rfl)⟩,I.freezeNew k ha ho,?_,q⟩
 simp only [VR]
 exact (in_EEEAAA a 0 ys rfl put_at hsz (VRs.mono e.seq _ _ vs))
theorem LocR.go {nm:List (Str × NameKind)} {env:Env} {m:Loc} (L:LocR nm env m Fs Z s.heap) (go:Go Fs Z s Z1 s1) (I:Inv g.prog g.w g.B Fs Z1 H s1.heap) (I0:∀ b o,Z b=some o→s.heap.get? b=some o):LocR nm env m Fs Z1 s1.heap:=by
 obtain ⟨⟨m',n1,n2⟩,c,l,ce⟩:=L
 refine ⟨⟨m',?_,fun i x v a b=>?_⟩,fun i x k v a b e=>?_,?_,fun x c e=>let ⟨o,u,e1,e2⟩:=ce x c e;⟨o,u,go.ext _ _ e1,e2⟩⟩
 ·rcases l with l | ⟨o,l⟩
  ·exact go.frk _ l _ n1
  ·refine el_EEEA n1 fun o' es ep e r=>?_
   have:o'=o:=by have:=I0 _ _ l;rw [e] at this;cases this;rfl
   subst this
   exact (in_EEEA o' es ep (I.zin _ _ (go.ext _ _ l)) r)
 ·refine el_EA (n2 i x v a b) fun y e1 e2=>?_
  exact (in_EA y e1 (VR.mono go.ext.seq _ _ e2))
 ·refine el_EEEAAA (c i x k v a b e) fun c' o y e1 e2 e3 e4=>?_
  exact (in_EEEAAA c' o y e1 (go.ext _ _ e2) e3 (VR.mono go.ext.seq _ _ e4))
 ·exact l.imp id fun ⟨o,e⟩=>⟨o,go.ext _ _ e⟩
end
noncomputable def Snd (g:G) (nm:List (Str × NameKind)) (pe:PySem.Expr) (e:E):Prop:=
 ∀ (n:Nat) (A:Around) (Fs:List Addr) (env:Env) (m:Loc) (s:Shared) (Z:Zone) (H:Hp) (Q:QV) (X:QX),Gd A Fs n→EnvOk env nm →
  wE g n e m Q X H→Inv g.prog g.w g.B Fs Z H s.heap→LocR nm env m Fs Z s.heap→wpAny (model g.prog g.w) A (eval pe env) (OkE g Fs Z s Q) (ExE g Fs Z s X) s
theorem Snd.use {g:G} {nm:List (Str × NameKind)} {pe:PySem.Expr} {e:E} (S:Snd g nm pe e) {n:Nat} {A:Around} {Fs:List Addr} {env:Env} {m:Loc} {s₀ s:Shared} {Z₀ Z:Zone} {H:Hp} {Q:QV} {X:QX}
  {R:Value→Shared→Prop} {E:Value→Shared→Prop} (D:Gd A Fs n) (V:EnvOk env nm) (w:wE g n e m Q X H) (I:Inv g.prog g.w g.B Fs Z H s.heap) (L:LocR nm env m Fs Z s.heap) (go:Go Fs Z₀ s₀ Z s)
  (hE:∀ e s',ExE g Fs Z₀ s₀ X e s'→E e s')
  (h:∀ y v s1 Z1 H1,Go Fs Z₀ s₀ Z1 s1→Inv g.prog g.w g.B Fs Z1 H1 s1.heap→LocR nm env m Fs Z1 s1.heap→Ext Z Z1→VR Z1 v y→Q v H1→R y s1):wpAny (model g.prog g.w) A (eval pe env) R E s:=
 wpAny_mono (S n A Fs env m s Z H Q X D V w I L) (fun y s1 ⟨v,Z1,H1,go1,I1,vr,q⟩=>h y v s1 Z1 H1 (go.trans go1) I1 (L.go go1 I1 I.zin) go1.ext vr q) fun u0 u0 x=>hE _ _ (x.step go)
end Mine
namespace Mine
theorem intBits_small {a:Int} (h:a.natAbs < 2 ^ 200):Builtin.Int.intBits a≤2 ^ 20:=by
 unfold Builtin.Int.intBits
 split
 ·exact Nat.zero_le _
 ·rename_i h0
  have h0':a.natAbs≠0:=fun q=>h0 (by rw [Int.natAbs_eq_zero.mp q];rfl)
  have:=(Nat.log2_lt h0').mpr h
  exact ln 0x41f1b144912010b000000c8301110 rfl this
theorem log2_small {a:Int} (h:a.natAbs < 2 ^ 200):a.natAbs.log2 < 9000:=by
 by_cases h0:a.natAbs=0
 ·rw [h0];decide +kernel
 ·have:=(Nat.log2_lt h0).mpr h;exact ln 0x41f0b000023283010b000000c8301110 rfl this
section
variable {g:G} {A:Around} {Fs:List Addr} {n:Nat} {Z:Zone} {H:Hp} {s:Shared} {Q:QV} {X:QX}
set_option tactic.hygienic true
mutual
theorem reads_of {h:Heap} (z:∀ b o,Z b=some o→h.get? b=some o):∀ (v:V) (y:Value) (d:PyData),VR Z v y→toPy v=some d→∃ as,Reads h y d as
 | .none,y,d,r,e=>by simp only [VR] at r;simp only [toPy,Option.some.injEq] at e;subst r e;exact ⟨_,.none⟩
 | .bool b,y,d,r,e=>by simp only [VR] at r;simp only [toPy,Option.some.injEq] at e;subst r e;exact ⟨_,.bool b⟩
 | .int i,y,d,r,e=>by simp only [VR] at r;obtain ⟨t,rfl⟩:=r;simp only [toPy,Option.some.injEq] at e;subst e;exact ⟨_,.int i t⟩
 | .str x,y,d,r,e=>by simp only [VR] at r;obtain ⟨t,rfl⟩:=r;simp only [toPy,Option.some.injEq] at e;subst e;exact ⟨_,.str x t⟩
 | .lst xs,y,d,r,e=>by
  simp only [VR] at r
  refine el_EEEAAA r fun a n ys rf3 e2 e3 e4=>?_;subst rf3
  simp only [toPy,Option.map_eq_some_iff] at e
  refine el_EA e fun ds e5 rf2=>?_;subst rf2
  obtain ⟨as,ra⟩:=readsAll_of z xs _ ds e4 e5
  exact ⟨_,.list (z _ _ e2) rfl rfl ra⟩
 | .tup xs,y,d,r,e=>by
  simp only [VR] at r
  refine el_EEEAAA r fun a n ys rf3 e2 e3 e4=>?_;subst rf3
  simp only [toPy,Option.map_eq_some_iff] at e
  refine el_EA e fun ds e5 rf2=>?_;subst rf2
  obtain ⟨as,ra⟩:=readsAll_of z xs _ ds e4 e5
  exact ⟨_,.tuple (z _ _ e2) rfl rfl ra⟩
 | .ref _,_,_,_,e=>by simp [toPy] at e
 | .fn _,_,_,_,e=>by simp [toPy] at e
theorem readsAll_of {h:Heap} (z:∀ b o,Z b=some o→h.get? b=some o):∀ (v:List V) (y:List Value) (d:List PyData),VRs Z v y→toPys v=some d→∃ as,ReadsAll h y d as
 | []=>@fun y d r e=>by simp only [VRs] at r;simp only [toPys,Option.some.injEq] at e;subst r e;exact ⟨_,.nil⟩
 | x::xs=>@fun y d r e=>by
  simp only [VRs] at r
  obtain ⟨y,r,rfl,e2,e3⟩:=r
  simp only [toPys] at e
  split at e
  ·rename_i d' ds h1 h2
   cases e
   obtain ⟨as,ra⟩:=reads_of z x y d' e2 h1
   obtain ⟨bs,rb⟩:=readsAll_of z xs r ds e3 h2
   exact ⟨_,.cons ra rb⟩
  ·trivial
end
set_option tactic.hygienic false
noncomputable def Op2.toOp:Op2→Operator
 | .add=>.Add
 | .sub=>.Sub
 | .mul=>.Mult
 | .mod=>.Mod
 | .fdiv=>.FloorDiv
set_option tactic.hygienic true in
theorem withL_inv {v:V} {k:List V→Prop} {y:Value} (w:withL v H k) (I:Inv g.prog g.w g.B Fs Z H s.heap) (r:VR Z v y) :
  ∃ l ys m xs,y=.ref l∧s.heap.get? l=some (PySem.W.listOf ys m)∧ys.size≤2 ^ 24∧VRs Z xs ys.toList∧k xs:=by
 unfold withL at w
 split at w
 ·rename_i xs
  simp only [VR] at r
  refine el_EEEAAA r fun a m ys e1 e2 e3 e4=>?_
  exact (in_EEEEAAAA a ys m xs e1 (I.zin _ _ e2) e3 e4 w)
 ·rename_i a
  simp only [VR] at r
  obtain ⟨xs,hx,w⟩:=w
  obtain ⟨δ,o1,-⟩:=I.own
  obtain ⟨⟨ys,m,e1,e2,e3⟩,-⟩:=o1 _ _ hx
  exact (in_EEEEAAAA a ys m xs r e1 e2 e3 w)
 ·exact w.elim
theorem repeat_one (y:Value) (k:Nat):(List.foldl (fun x1 x2=>x1++x2) #[] (List.replicate k #[y])).toList=List.replicate k y:=by
 have:∀ (k:Nat) (a:Array Value),(List.foldl (fun x1 x2=>x1++x2) a (List.replicate k #[y])).toList=a.toList++List.replicate k y:=by
  intro k
  induction k with
  | zero=>intro a;simp
  | succ k ih=>intro a;rw [List.replicate_succ,List.foldl_cons,ih,List.replicate_succ];simp
 simpa using this k #[]
theorem VRs.replicate {x:V} {y:Value} (h:VR Z x y):∀ k:Nat,VRs Z (List.replicate k x) (List.replicate k y)
 | 0=>.nil
 | k+1=>by rw [List.replicate_succ,List.replicate_succ];exact .cons h (VRs.replicate h k)
theorem fits_small {b:Int} (h:-(2 ^ 63)≤b) (hb:b≤2 ^ 20):Builtin.List.listFitsIndex b=true:=
 Bool.and_eq_true_iff.mpr ⟨decide_eq_true h,decide_eq_true (Int.lt_of_le_of_lt hb (by decide))⟩
theorem one_mul_le {b:Int} {N:Nat} (hb:b≤2 ^ 20) (hN:2 ^ 20≤N):1*b.toNat≤N:=by
 rw [Nat.one_mul];exact Nat.le_trans (Int.toNat_le.mpr hb) hN
theorem mul_one (G:GlobOk g) {v:V} {b:Int} {y:Value} {u:Tok} {E:Value→Shared→Prop} (hb:b≤2 ^ 20) (w:NewL (List.replicate b.toNat v) Q H) (I:Inv g.prog g.w g.B Fs Z H s.heap) (r:VR Z (.lst [v]) y) (hlo:-(2 ^ 63)≤b) :
  wpAny (model g.prog g.w) A (binaryOp .Mult y (.int b u)) (OkE g Fs Z s Q) E s:=by
 have B3:∃ m,g.B.Ns 3 m:=by obtain ⟨mg,mb,h,-⟩:=G.gt;exact ⟨_,h⟩
 simp only [VR,VRs] at r
 obtain ⟨a,m,ys,rfl,e2,e3,y,r,e4,e5,rfl⟩:=r
 have e6:ys=#[y]:=by rw [← Array.toList_inj];exact e4
 subst e6
 have hl:=I.zin _ _ e2
 refine wpAny_binaryOp_repeat_ref (T:="list") (U:="int") (by rfl) ⟨_,hl,rfl⟩ (fun s'=>typeIs_int s' b u) noFill_list_mul F.fills_int_mul F.slot_int_rmul repeat_list F.slot_int_index.lookup
  (call_meets F.slot_int_rmul (typeIs_int s b u) F.entry_int_rmul (F.args_int_rmul_2 _ _) (int___rmul___int_list b u a #[y] m)
   ⟨hl,rfl,⟨_,hl,rfl⟩,call_meets F.slot_list_mul ⟨_,hl,rfl⟩ F.entry_list_mul (F.args_list_mul_2 _ _)
    (AutoListH.list___mul___list_int_3 a #[y] m b u (fun h=>by rw [fits_small hlo hb] at h;cases h) (Nat.not_lt.mpr (one_mul_le hb (by decide))) (fun h=>absurd (one_mul_le hb (by decide)) (Nat.not_le.mpr (of_decide_eq_true h))))
    ⟨hl,?_⟩⟩)
 refine w.run I ?_ (keeps_push _ _) (Nat.le_refl _) B3 (Heap.get?_push_size _ rfl)
 have:(if (#[y]:Array Value).isEmpty=true then 0 else b.toNat)=b.toNat:=by rfl
 rw [this,repeat_one]
 exact VRs.replicate e5 _
theorem i2_inv {x y:V} {k:Int→Int→Prop} (w:i2 x y k):∃ i j,x=.int i∧y=.int j∧k i j:=by
 cases x with
 | int i=>cases y with
  | int j=>exact (in_EEAA i j rfl rfl w)
  | _=>exact (show False from w).elim
 | _=>exact (show False from w).elim
theorem addL_run (G:GlobOk g) {x y:V} {a b:Value} {E:Value→Shared→Prop} (I:Inv g.prog g.w g.B Fs Z H s.heap) (vx:VR Z x a) (vy:VR Z y b) (w:withL x H fun xs=>withL y H fun ys=>NewL (xs++ys) Q H) :
  wpAny (model g.prog g.w) A (binaryOp .Add a b) (OkE g Fs Z s Q) E s:=by
 have B3:∃ m,g.B.Ns 3 m:=by refine el_EEA G.gt fun mg mb h u0=>?_;exact ⟨_,h⟩
 refine el_EEEEAAAA (withL_inv w I vx) fun l ys m xs rf4 hl hs vs w=>?_;subst rf4
 refine el_EEEEAAAA (withL_inv w I vy) fun l' ys' m' xs' rf4 hl' hs' vs' w=>?_;subst rf4
 have hsz:ys.size+ys'.size≤sizeLine:=by
  have:=w.sz
  rw [List.length_append,vs.length,vs'.length,Array.length_toList,Array.length_toList] at this
  exact this
 refine P.add_list hl hl' ?_ hsz
 exact w.run I (by rw [Array.toList_append];exact vs.append vs') (keeps_push _ _) (Nat.le_refl _) B3 (Heap.get?_push_size _ rfl)
theorem binW_run (G:GlobOk g) {op:Op2} {x y:V} {a b:Value} {E:Value→Shared→Prop} (w:binW op x y Q H) (I:Inv g.prog g.w g.B Fs Z H s.heap) (vx:VR Z x a) (vy:VR Z y b) :
  wpAny (model g.prog g.w) A (binaryOp op.toOp a b) (OkE g Fs Z s Q) E s:=by
 cases op with
 | add=>
  cases x with
  | int i=>cases y with
   | int j=>
    obtain ⟨t,rfl⟩:=vx;obtain ⟨u,rfl⟩:=vy
    exact PyProof.Rows.add_int (.here I (show VR _ (.int _) _ from ⟨_,rfl⟩) w)
   | _=>exact (show False from w).elim
  | _=>exact addL_run G I vx vy w
 | sub=>
  refine el_EEAA (i2_inv w) fun i j rf2 rf3 w=>?_;subst rf2;subst rf3
  obtain ⟨t,rfl⟩:=vx;obtain ⟨u,rfl⟩:=vy
  exact PyProof.Rows.sub_int' (.here I (show VR _ (.int _) _ from ⟨_,rfl⟩) w)
 | mul=>
  cases x with
  | int i=>cases y with
   | int j=>
    obtain ⟨t,rfl⟩:=vx;obtain ⟨u,rfl⟩:=vy
    exact PyProof.Rows.mul_int (.here I (show VR _ (.int _) _ from ⟨_,rfl⟩) w.2.2) (IntMulOk.of_bits (intBits_small w.1) (intBits_small w.2.1))
   | _=>exact (show False from w).elim
  | lst xs=>match xs,w with
   | [],w=>exact (show False from w).elim
   | _::_::_,w=>exact (show False from w).elim
   | [v],w=>cases y with
    | int j=>
     obtain ⟨u,rfl⟩:=vy
     exact mul_one G w.1 w.2.2 I vx w.2.1
    | _=>exact (show False from w).elim
  | _=>exact (show False from w).elim
 | mod=>
  refine el_EEAA (i2_inv w) fun i j rf2 rf3 w=>?_;subst rf2;subst rf3
  obtain ⟨t,rfl⟩:=vx;obtain ⟨u,rfl⟩:=vy
  exact PyProof.Rows.mod_int' w.1 (.here I (show VR _ (.int _) _ from ⟨_,rfl⟩) w.2)
 | fdiv=>
  refine el_EEAA (i2_inv w) fun i j rf2 rf3 w=>?_;subst rf2;subst rf3
  obtain ⟨t,rfl⟩:=vx;obtain ⟨u,rfl⟩:=vy
  exact PyProof.Rows.floordiv_int w.1 (.here I (show VR _ (.int _) _ from ⟨_,rfl⟩) w.2.2.2) (.inl (PyProof.noPylong_of_log2 (log2_small w.2.2.1)))
theorem PairR.look {Z:Zone} (k:Int):∀ {es:List (Int × V)} {kvs:List (Int × Value)},PairR Z es kvs →
  (dlook k es).isSome=(valueAt kvs k).isSome∧∀ v,dlook k es=some v→∃ y,valueAt kvs k=some y∧VR Z v y
 | [],_,r=>by obtain rfl:_=[]:=r;exact ⟨rfl,fun v e=>by simp [dlook] at e⟩
 | (j,v)::es,_,⟨y,r,rfl,e2,e3⟩=>by
  have ih:=PairR.look k e3
  unfold dlook valueAt at *
  by_cases h:j=k
  ·simp only [List.find?_cons,h,decide_true,Option.map_some,Option.isSome_some,true_and]
   intro v' e;cases e;exact (in_EA y rfl e2)
  ·simp only [List.find?_cons,h,decide_false]
   exact ih
theorem PairR.length {Z:Zone}:∀ {es:List (Int × V)} {kvs:List (Int × Value)},PairR Z es kvs→es.length=kvs.length
 | [],_,r=>by obtain rfl:_=[]:=r;rfl
 | (_,_)::es,_,⟨y,r,rfl,e2,e3⟩=>by simp only [List.length_cons,PairR.length e3]
theorem PairR.keys {Z:Zone}:∀ {es:List (Int × V)} {kvs:List (Int × Value)},PairR Z es kvs→es.map (·.1)=kvs.map (·.1)
 | [],_,r=>by obtain rfl:_=[]:=r;rfl
 | (_,_)::es,_,⟨y,r,rfl,e2,e3⟩=>by simp only [List.map_cons,PairR.keys e3]
theorem PairR.append {Z:Zone}:∀ {es es':List (Int × V)} {kvs kvs':List (Int × Value)},PairR Z es kvs→PairR Z es' kvs'→PairR Z (es++es') (kvs++kvs')
 | [],_,_,_,r,h=>by obtain rfl:_=[]:=r;exact h
 | (_,_)::es,_,_,_,⟨y,r,e1,e2,e3⟩,h=>by subst e1;exact ⟨y,_,rfl,e2,PairR.append e3 h⟩
theorem PairR.set {Z:Zone} {k:Int} {v:V} {y:Value} (hv:VR Z v y):∀ {es:List (Int × V)} {kvs:List (Int × Value)},PairR Z es kvs →
  PairR Z (es.map (fun e=>if e.1=k then (e.1,v) else e)) (kvs.map (fun e=>if e.1=k then (e.1,y) else e))
 | [],_,r=>by obtain rfl:_=[]:=r;rfl
 | (j,u)::es,_,⟨z,r,e1,e2,e3⟩=>by
  subst e1
  simp only [List.map_cons]
  by_cases h:j=k
  ·simp only [h,if_true];exact (in_EEAA y _ rfl hv (PairR.set hv e3))
  ·simp only [h,if_false];exact (in_EEAA z _ rfl e2 (PairR.set hv e3))
theorem PairR.any {Z:Zone} {k:Int}:∀ {es:List (Int × V)} {kvs:List (Int × Value)},PairR Z es kvs→es.any (fun e=>decide (e.1=k))=kvs.any (fun e=>decide (e.1=k))
 | [],_,r=>by obtain rfl:_=[]:=r;rfl
 | (_,_)::es,_,⟨y,r,e1,e2,e3⟩=>by subst e1;simp only [List.any_cons,PairR.any e3]
theorem PairR.put {Z:Zone} {k:Int} {v:V} {y:Value} {es:List (Int × V)} {kvs:List (Int × Value)} (hv:VR Z v y) (r:PairR Z es kvs):PairR Z (dput k v es) (stored kvs k y):=by
 unfold dput stored
 rw [r.any]
 split
 ·exact r.set hv
 ·exact r.append (in_EEAA y ([]) rfl hv rfl)
theorem sys_ne {d:Addr} (h:3 < d):d≠sysModules:=fun q=>by rw [q] at h;trivial
noncomputable def CmpB (s:Shared) (k:Bool→Prop) (y:Value) (s':Shared):Prop:=∃ c t,y=.bool c∧s'={ s with toks:=t }∧k c
theorem CmpB.here {k:Bool→Prop} {c:Bool} (h:k c):CmpB s k (.bool c) s:=(in_EEAA c s.toks rfl rfl h)
theorem isNoneW_run {x:V} {a:Value} {E:Value→Shared→Prop} (k:Bool→Prop) (vx:VR Z x a) (w:isNoneW x k) :
  wpAny (model g.prog g.w) A (compareOp .Is a .none) (CmpB s k) E s∧wpAny (model g.prog g.w) A (compareOp .IsNot a .none) (CmpB s fun c=>k (!c)) E s:=by
 cases x with
 | none=>obtain rfl:=vx;exact ⟨is_none_none (.here w),isnot_none_none (.here w)⟩
 | int i=>obtain ⟨t,rfl⟩:=vx;exact ⟨is_int_none (.here w),isnot_int_none (.here w)⟩
 | lst xs=>refine el_EEEA vx fun a u0 u0 rf3 u0=>?_;subst rf3;exact ⟨is_ref_none (.here w),isnot_ref_none (.here w)⟩
 | tup xs=>refine el_EEEA vx fun a u0 u0 rf3 u0=>?_;subst rf3;exact ⟨is_ref_none (.here w),isnot_ref_none (.here w)⟩
 | ref b=>obtain rfl:=vx;exact ⟨is_ref_none (.here w),isnot_ref_none (.here w)⟩
 | _=>exact (show False from w).elim
theorem eq_run {x y:V} {a b:Value} {E:Value→Shared→Prop} {k:Bool→Prop} (hu:A.units+64 < cLine) (w:EqW x y k) (I:Inv g.prog g.w g.B Fs Z H s.heap) (vx:VR Z x a) (vy:VR Z y b) :
  wpAny (model g.prog g.w) A (compareOp .Eq a b) (CmpB s k) E s:=by
 obtain ⟨da,db,e1,e2,e3,e4,w⟩:=w
 obtain ⟨_,ra⟩:=reads_of I.zin _ _ _ vx e1
 obtain ⟨_,rb⟩:=reads_of I.zin _ _ _ vy e2
 exact eq_dataH ra rb e3 e4 hu (.here w)
theorem ne_run {x y:V} {a b:Value} {E:Value→Shared→Prop} {k:Bool→Prop} (hu:A.units+64 < cLine) (w:EqW x y fun c=>k (!c)) (I:Inv g.prog g.w g.B Fs Z H s.heap) (vx:VR Z x a) (vy:VR Z y b) :
  wpAny (model g.prog g.w) A (compareOp .NotEq a b) (CmpB s k) E s:=by
 obtain ⟨da,db,e1,e2,e3,e4,w⟩:=w
 obtain ⟨_,ra⟩:=reads_of I.zin _ _ _ vx e1
 obtain ⟨_,rb⟩:=reads_of I.zin _ _ _ vy e2
 exact ne_dataH ra rb e3 e4 hu (.here w)
theorem cmpW_run (G:GlobOk g) (D:Gd A Fs n) {op:CmpOp} {x y:V} {a b:Value} {E:Value→Shared→Prop} {k:Bool→Prop} (w:cmpW op x y H k) (I:Inv g.prog g.w g.B Fs Z H s.heap) (vx:VR Z x a) (vy:VR Z y b) :
  wpAny (model g.prog g.w) A (compareOp op a b) (CmpB s k) E s:=by
 have hv:A.units+100 < cLine:=by have:=D.units;exact ln 0x41f0b219000000643010b21900000064391471101130 rfl this
 have hu:A.units+64 < cLine:=ln 0x41f0b119000000403010b11900000064301120 rfl hv
 cases op with
 | Lt=>refine el_EEAA (i2_inv w) fun i j rf2 rf3 w=>?_;subst rf2;subst rf3;obtain ⟨t,rfl⟩:=vx;obtain ⟨u,rfl⟩:=vy;exact PyProof.Rows.lt_int (.here w)
 | LtE=>refine el_EEAA (i2_inv w) fun i j rf2 rf3 w=>?_;subst rf2;subst rf3;obtain ⟨t,rfl⟩:=vx;obtain ⟨u,rfl⟩:=vy;exact PyProof.Rows.le_int (.here w)
 | Gt=>refine el_EEAA (i2_inv w) fun i j rf2 rf3 w=>?_;subst rf2;subst rf3;obtain ⟨t,rfl⟩:=vx;obtain ⟨u,rfl⟩:=vy;exact PyProof.Rows.gt_int (.here w)
 | GtE=>refine el_EEAA (i2_inv w) fun i j rf2 rf3 w=>?_;subst rf2;subst rf3;obtain ⟨t,rfl⟩:=vx;obtain ⟨u,rfl⟩:=vy;exact PyProof.Rows.ge_int (.here w)
 | Eq=>
  cases x with
  | int i=>cases y with
   | int j=>
    obtain ⟨t,rfl⟩:=vx;obtain ⟨u,rfl⟩:=vy
    exact PyProof.Rows.eq_int (.here (show k (i==j) from w))
   | _=>exact (show False from w).elim
  | _=>exact eq_run hu w I vx vy
 | NotEq=>
  cases x with
  | int i=>cases y with
   | int j=>
    obtain ⟨t,rfl⟩:=vx;obtain ⟨u,rfl⟩:=vy
    exact PyProof.Rows.ne_int (.here (show k (i != j) from w))
   | _=>exact (show False from w).elim
  | ref r=>cases y with
   | lst ys=>
    obtain ⟨xs,hx,da,db,e1,e2,e3,e4,w⟩:=w
    obtain rfl:=vx
    obtain ⟨δ,o1,-⟩:=I.own
    obtain ⟨⟨ys',m,e6,e7,e8⟩,-⟩:=o1 _ _ hx
    obtain ⟨_,rb⟩:=reads_of I.zin _ _ _ vy e2
    cases h:toPys xs with
    | none=>simp [toPy,h] at e1
    | some ds=>
     simp only [toPy,h,Option.map_some,Option.some.injEq] at e1
     subst e1
     obtain ⟨_,rs⟩:=readsAll_of I.zin _ _ _ e8 h
     exact ne_dataH (.list e6 rfl rfl rs) rb e3 e4 hu (.here w)
   | _=>exact (show False from w).elim
  | _=>exact ne_run hu w I vx vy
 | Is=>cases y with
  | none=>obtain rfl:=vy;exact (isNoneW_run k vx w).1
  | _=>exact (show False from w).elim
 | IsNot=>cases y with
  | none=>
   obtain rfl:=vy
   have:=(isNoneW_run (E:=E) (s:=s) (A:=A) (g:=g) (fun c=>k (!c)) vx w).2
   simp only [Bool.not_not] at this
   exact this
  | _=>exact (show False from w).elim
 | In=>cases y with
  | lst ys=>
   obtain ⟨dx,ds,e1,e2,e3,e4,e5,w⟩:=w
   obtain ⟨_,rx⟩:=reads_of I.zin _ _ _ vx e1
   refine el_EEEAAA vy fun l m ys rf3 e6 e7 e8=>?_;subst rf3
   obtain ⟨_,rs⟩:=readsAll_of I.zin _ _ _ e8 e2
   exact SeqAt.in_list_reads (.list (I.zin _ _ e6) rfl rfl rs) rx e3 e4 (ln 0x1041f0b21901912110b219000000643111b00000040301130 rfl hv e5) (.here w)
  | ref l=>
   obtain ⟨ys,hy,dx,ds,e1,e2,e3,e4,e5,w⟩:=w
   obtain ⟨_,rx⟩:=reads_of I.zin _ _ _ vx e1
   obtain rfl:=vy
   obtain ⟨δ,o1,-⟩:=I.own
   obtain ⟨⟨ys',m,e6,e7,e8⟩,-⟩:=o1 _ _ hy
   obtain ⟨_,rs⟩:=readsAll_of I.zin _ _ _ e8 e2
   exact SeqAt.in_list_reads (.list e6 rfl rfl rs) rx e3 e4 (ln 0x1041f0b21901912110b219000000643111b00000040301130 rfl hv e5) (.here w)
  | _=>exact (show False from w).elim
 | NotIn=>cases x with
  | int i=>cases y with
   | ref d=>
    obtain ⟨es,hy,w⟩:=w
    obtain ⟨t,rfl⟩:=vx
    obtain rfl:=vy
    obtain ⟨δ,o1,-⟩:=I.own
    refine el_AA (o1 _ _ hy) fun rt0 u0 h3=>?_;obtain ⟨o,kvs,e6,e7,e8,e9⟩:=rt0
    have hm:=(Heap.dictOf_iff.mpr (in_EA o e6 e7):s.heap.DictOf (intKind g.prog g.w) d kvs).mapOf
    refine wpAny_notIn_of (intKind_is g.prog g.w i t) (beq_false_of_ne (sys_ne h3)) hm (in_EEAA _ _ rfl rfl ?_)
    rw [← (e9.look i).1];exact w
   | _=>exact (show False from w).elim
  | _=>exact (show False from w).elim
end
end Mine
namespace Mine
section
variable {g:G} {A:Around} {Fs:List Addr} {n:Nat} {Z:Zone} {H:Hp} {s:Shared} {Q:QV} {X:QX}
theorem GlobOk.three (G:GlobOk g):∃ m,g.B.Ns 3 m:=by refine el_EEA G.gt fun mg mb h u0=>?_;exact ⟨_,h⟩
theorem lenW_run {v:V} {y:Value} {E:Value→Shared→Prop} (w:lenW v Q H) (I:Inv g.prog g.w g.B Fs Z H s.heap) (r:VR Z v y) :
  wpAny (model g.prog g.w) A (PySem.call (.builtin "len") [y]) (OkE g Fs Z s Q) E s:=by
 cases v with
 | ref a=>
  obtain rfl:=r
  rcases w with ⟨xs,hx,w⟩ | ⟨es,hx,w⟩
  ·obtain ⟨δ,o1,-⟩:=I.own
   obtain ⟨⟨ys,m,e1,e2,e3⟩,-⟩:=o1 _ _ hx
   exact call_len_list (l:=a) (items:=ys) (in_EAAE _ e1 rfl m rfl) (ln 0x41f0c3f46011b18401110 rfl e2) (.here I (show VR _ (.int _) _ from ⟨_,by rw [e3.length,Array.length_toList]⟩) w)
  ·obtain ⟨δ,o1,-⟩:=I.own
   refine el_AA (o1 _ _ hx) fun rt0 u0 h3=>?_;obtain ⟨o,kvs,e6,e7,e8,e9⟩:=rt0
   exact call_len_dict (knd:=intKind g.prog g.w) (kvs:=kvs) (beq_false_of_ne (sys_ne h3)) (Heap.dictOf_iff.mpr (in_EA o e6 e7)) (ln 0x41f0c3f46011b14401110 rfl e8) (.here I (show VR _ (.int _) _ from ⟨_,by rw [e9.length]⟩) w)
 | lst xs=>
  refine el_EEEAAA r fun a m ys rf3 e2 e3 e4=>?_;subst rf3
  exact call_len_list (l:=a) (items:=ys) (in_EAAE _ (I.zin _ _ e2) rfl m rfl) (ln 0x41f0c3f46011b18401110 rfl e3) (.here I (show VR _ (.int _) _ from ⟨_,by rw [e4.length,Array.length_toList]⟩) w)
 | tup xs=>
  refine el_EEEAAA r fun a m ys rf3 e2 e3 e4=>?_;subst rf3
  exact PyProof.Rows.len_tuple (t:=a) (items:=ys) (in_EAAE _ (I.zin _ _ e2) rfl m rfl) (ln 0x41f0c3f46011b18401110 rfl e3) (.here I (show VR _ (.int _) _ from ⟨_,by rw [e4.length,Array.length_toList]⟩) w)
 | _=>exact (show False from w).elim
theorem one1_inv {vs:List V} {P:V→Prop} (w:one1 vs P):∃ v,vs=[v]∧P v:=match vs,w with
 | [],w=>(show False from w).elim
 | [v],w=>(in_EA v rfl w)
 | _::_::_,w=>(show False from w).elim
theorem two2_inv {vs:List V} {P:V→V→Prop} (w:two2 vs P):∃ u v,vs=[u,v]∧P u v:=match vs,w with
 | [],w=>(show False from w).elim
 | [_],w=>(show False from w).elim
 | [u,v],w=>(in_EEA u v rfl w)
 | _::_::_::_,w=>(show False from w).elim
theorem bltW_run (G:GlobOk g) (D:Gd A Fs n) {f:Blt} {vs:List V} {ys:List Value} {E:Value→Shared→Prop} (w:bltW f vs Q H) (I:Inv g.prog g.w g.B Fs Z H s.heap) (r:VRs Z vs ys) :
  wpAny (model g.prog g.w) A (PySem.call (.builtin f.id) ys) (OkE g Fs Z s Q) E s:=by
 cases f with
 | len=>
  refine el_EA (one1_inv w) fun v rf1 w=>?_;subst rf1
  obtain ⟨y,_,rfl,r,rfl⟩:=r
  exact lenW_run w I r
 | min=>
  refine el_EEA (two2_inv w) fun u v rf2 w1=>?_;subst rf2
  refine el_EEAA (i2_inv w1) fun a b rf2 rf3 w2=>?_;subst rf2;subst rf3
  refine el_EEAA r fun u0 u0 rf2 rt3 rt4=>?_;subst rf2;obtain ⟨t,rfl⟩:=rt3;obtain ⟨_,_,rfl,⟨u,rfl⟩,rfl⟩:=rt4
  refine min_two_ints D.handled fun h' tk hk=>?_
  by_cases c:b < a
  ·rw [if_pos c] at w2 ⊢;exact .grown hk I (show VR _ (.int _) _ from ⟨_,rfl⟩) w2
  ·rw [if_neg c] at w2 ⊢;exact .grown hk I (show VR _ (.int _) _ from ⟨_,rfl⟩) w2
 | max=>
  refine el_EEA (two2_inv w) fun u v rf2 w1=>?_;subst rf2
  refine el_EEAA (i2_inv w1) fun a b rf2 rf3 w2=>?_;subst rf2;subst rf3
  refine el_EEAA r fun u0 u0 rf2 rt3 rt4=>?_;subst rf2;obtain ⟨t,rfl⟩:=rt3;obtain ⟨_,_,rfl,⟨u,rfl⟩,rfl⟩:=rt4
  refine max_two_ints D.handled fun h' tk hk=>?_
  by_cases c:b > a
  ·rw [if_pos c] at w2 ⊢;exact .grown hk I (show VR _ (.int _) _ from ⟨_,rfl⟩) w2
  ·rw [if_neg c] at w2 ⊢;exact .grown hk I (show VR _ (.int _) _ from ⟨_,rfl⟩) w2
 | abs=>
  refine el_EA (one1_inv w) fun v rf1 w=>?_;subst rf1
  obtain ⟨y,_,rfl,r,rfl⟩:=r
  cases v with
  | int i=>
   obtain ⟨t,rfl⟩:=r
   exact call_abs_int fun u tk=>.here I (show VR _ (.int _) _ from ⟨_,rfl⟩) w
  | _=>exact (show False from w).elim
theorem lmeth {l:Addr} {ys:Array Value} {m:Nat} {name:Str} {id:String} {pl:Sem Bool} {R:Value × List Value→Shared→Prop} {E:Value→Shared→Prop} (hl:s.heap.get? l=some (PySem.W.listOf ys m)) (slot:Slot "list" name id)
  (hty:typeOf (.builtin id)=pure (.type "method_descriptor")) (h:R (.builtin id,[.ref l]) s):wpAny (model g.prog g.w) A (getMethod (.ref l) name pl) R E s:=
 getMethod_builtin (in_EA _ hl rfl) PySem.F.plainAttrs_list slot hty (fun a e=>by cases e;exact (in_EA _ hl rfl)) h
theorem OkE.setList {v:V} {y:Value} {t:Nat} {a:Addr} {xs xs':List V} {f:Array Value→Array Value} (I:Inv g.prog g.w g.B Fs Z H s.heap) (ha:H a=some (.list xs)) {ys:Array Value} {m:Nat}
  (hl:s.heap.get? a=some (PySem.W.listOf ys m)) (hz:(f ys).size≤2 ^ 24) (vs:VRs Z xs' (f ys).toList) (vr:VR Z v y) (q:Q v (put H a (.list xs'))) :
  OkE g Fs Z s Q y { s with heap:=s.heap.update a (Obj.mapSeq f),toks:=t }:=by
 have hF:a∉Fs:=fun q=>by have:=(I.frs a q).2.1;rw [ha] at this;trivial
 refine ⟨v,Z,put H a (.list xs'),⟨.refl _,?_,(in_AA rfl rfl rfl)⟩,I.setOwn (o':=.list xs') ha (fun u0 u0 q=>by trivial) (fun u0 u0 q=>by trivial) (fun b x hb e=>(Heap.get?_update_other _ _ (Ne.symm hb)).trans e) (fun δ=>(in_EEAA _ _ (IsL.update hl f) hz vs)),vr,q⟩
 intro b hb mm hn
 refine el_EEEA hn fun o es ep e r=>?_
 exact (in_EEEA o es ep ((Heap.get?_update_other _ _ (Ne.symm (neF hb hF))).trans e) r)
end
theorem CmpB.toOk {g:G} {Fs:List Addr} {Z:Zone} {H:Hp} {s s':Shared} {y:Value} {k:Bool→Prop} {Q:QV} (I:Inv g.prog g.w g.B Fs Z H s.heap) (h:CmpB s k y s') (q:∀ c,k c→Q (.bool c) H):OkE g Fs Z s Q y s':=by
 refine el_EEAA h fun c t rf2 rf3 hk=>?_;subst rf2;subst rf3
 exact .here I (by rfl) (q c hk)
end Mine
namespace Mine
noncomputable def BoolQ (Q:Bool→Hp→Prop) (v:V) (H:Hp):Prop:=boolW v fun t=>Q t H
noncomputable def OkB (g:G) (Fs:List Addr) (Z:Zone) (s:Shared) (Q:Bool→Hp→Prop) (t:Bool) (s':Shared):Prop:=
 ∃ Z' H',Go Fs Z s Z' s'∧Inv g.prog g.w g.B Fs Z' H' s'.heap∧Q t H'
noncomputable def SndB (g:G) (nm:List (Str × NameKind)) (pe:PySem.Expr) (e:E):Prop:=
 ∀ (n:Nat) (A:Around) (Fs:List Addr) (env:Env) (m:Loc) (s:Shared) (Z:Zone) (H:Hp) (Q:Bool→Hp→Prop) (X:QX),Gd A Fs n→EnvOk env nm →
  wE g n e m (BoolQ Q) X H→Inv g.prog g.w g.B Fs Z H s.heap→LocR nm env m Fs Z s.heap→wpAny (model g.prog g.w) A (isTrue pe env (eval pe env)) (OkB g Fs Z s Q) (ExE g Fs Z s X) s
section
variable {g:G} {nm:List (Str × NameKind)}
theorem OkB.step {Fs:List Addr} {Z Z1:Zone} {s s1 s':Shared} {Q:Bool→Hp→Prop} {t:Bool} (go:Go Fs Z s Z1 s1) (h:OkB g Fs Z1 s1 Q t s'):OkB g Fs Z s Q t s':=
 let ⟨Z',H',a,b,c⟩:=h;⟨Z',H',go.trans a,b,c⟩
theorem OkB.toks {Fs:List Addr} {Z:Zone} {H:Hp} {s:Shared} {Q:Bool→Hp→Prop} {t:Bool} {k:Nat} (I:Inv g.prog g.w g.B Fs Z H s.heap) (q:Q t H):OkB g Fs Z s Q t { s with toks:=k }:=
 (in_EEAA Z H ⟨.refl _,.refl _ _,(in_AA rfl rfl rfl)⟩ I q)
theorem SndB.use {pe:PySem.Expr} {e:E} (S:SndB g nm pe e) {n:Nat} {A:Around} {Fs:List Addr} {env:Env} {m:Loc} {s₀ s:Shared} {Z₀ Z:Zone} {H:Hp} {Q:Bool→Hp→Prop} {X:QX}
  {R:Bool→Shared→Prop} {E:Value→Shared→Prop} (D:Gd A Fs n) (V:EnvOk env nm) (w:wE g n e m (BoolQ Q) X H) (I:Inv g.prog g.w g.B Fs Z H s.heap) (L:LocR nm env m Fs Z s.heap) (go:Go Fs Z₀ s₀ Z s)
  (hE:∀ e s',ExE g Fs Z₀ s₀ X e s'→E e s')
  (h:∀ t s1 Z1 H1,Go Fs Z₀ s₀ Z1 s1→Inv g.prog g.w g.B Fs Z1 H1 s1.heap→LocR nm env m Fs Z1 s1.heap→Ext Z Z1→Q t H1→R t s1):wpAny (model g.prog g.w) A (isTrue pe env (eval pe env)) R E s:=
 wpAny_mono (S n A Fs env m s Z H Q X D V w I L) (fun t s1 ⟨Z1,H1,go1,I1,q⟩=>h t s1 Z1 H1 (go.trans go1) I1 (L.go go1 I1 I.zin) go1.ext q) fun u0 u0 x=>hE _ _ (x.step go)
noncomputable def isLoc:NameKind→Bool
 | .local=>true
 | .cell=>true
 | .free=>true
 | _=>false
theorem ld_any {i:Nat} {x:Str} {k:NameKind} {pos:Pos} (hi:nm[i]?=some (x,k)) (hk:isLoc k=true) {A:Around} {Fs:List Addr} {env:Env} {m:Loc} {s:Shared} {Z:Zone} {H:Hp} {v:V} {R E:Value→Shared→Prop}
  (V:EnvOk env nm) (I:Inv g.prog g.w g.B Fs Z H s.heap) (L:LocR nm env m Fs Z s.heap) (hv:m[i]?=some (some v)) (h:∀ y,VR Z v y→R y s):wpAny (model g.prog g.w) A (eval (.Name x pos) env) R E s:=by
 have hko:env.kindOf x=some k:=by show env.scope.names.lookup x=_;rw [V.sc];exact lookup_get V.nd hi
 have hd:=V.db _ (List.mem_of_getElem? hi)
 cases k with
 | «local»=>
  refine el_EA L.ns fun m' n1 n2=>?_
  refine el_EA (n2 i x v hi hv) fun y e1 e2=>?_
  exact wpAny_Name (wpAny_loadName_local V.kd hko n1 e1 (h y e2)) hd.1
 | cell=>
  refine el_EEEAAA (L.cells i x _ v hi (.inl rfl) hv) fun c o y e1 e2 e3 e4=>?_
  exact wpAny_Name (wpAny_loadName_cell V.kd hko e1 (in_EA o (I.zin _ _ e2) e3) (h y e4)) hd.1
 | free=>
  refine el_EEEAAA (L.cells i x _ v hi (.inr rfl) hv) fun c o y e1 e2 e3 e4=>?_
  exact wpAny_Name (wpAny_loadName_free V.kd hko e1 (in_EA o (I.zin _ _ e2) e3) (h y e4) hd.2) hd.1
 | _=>trivial
set_option tactic.hygienic true in
theorem snd_var {i:Nat} {x:Str} {k:NameKind} {pos:Pos} (hi:nm[i]?=some (x,k)) (hk:isLoc k=true):Snd g nm (.Name x pos) (.var i):=by
 intro n A Fs env m s Z H Q X D V w I L
 conv at w=>whnf
 split at w
 ·rename_i v hv
  exact ld_any hi hk V I L hv fun y vr=>.here (t:=s.toks) I vr w
 ·exact w.elim
set_option tactic.hygienic true in
theorem snd_frz {i:Nat} {x:Str} {k:NameKind} {pos:Pos} (hi:nm[i]?=some (x,k)) (hk:isLoc k=true):Snd g nm (.Name x pos) (.frz i):=by
 intro n A Fs env m s Z H Q X D V w I L
 conv at w=>whnf
 split at w
 ·rename_i a hv
  obtain ⟨xs,hx,w⟩:=w
  refine ld_any hi hk V I L hv fun y vr=>?_
  simp only [VR] at vr
  subst vr
  refine el_EEAAA (I.freeze hx) fun ys l e1 e2 e3 rt5=>?_;obtain ⟨e4,I'⟩:=rt5
  have ex:=Ext.put (o:=PySem.W.listOf ys l) e4
  refine ⟨.lst xs,_,_,⟨ex,.refl _ _,.refl _⟩,I',?_,w⟩
  simp only [VR]
  exact (in_EEEAAA a l ys rfl put_at e2 (VRs.mono ex.seq _ _ e3))
 ·exact w.elim
theorem glob_any (G:GlobOk g) {j:Nat} {x:Str} {v:V} {pos:Pos} (hm:(x,NameKind.globalImplicit)∈nm) (hj:GT[j]?=some (x,v)) {A:Around} {Fs:List Addr} {env:Env} {s:Shared} {Z:Zone} {H:Hp} {R E:Value→Shared→Prop}
  (V:EnvOk env nm) (I:Inv g.prog g.w g.B Fs Z H s.heap) (h:∀ y,(∀ Z,VR Z v y)→R y s):wpAny (model g.prog g.w) A (eval (.Name x pos) env) R E s:=by
 have hko:env.kindOf x=some .globalImplicit:=by show env.scope.names.lookup x=_;rw [V.sc];exact lookup_mem V.nd hm
 have hd:=V.db _ hm
 refine el_EEAAA G.gt fun mg mb b1 b2 b3 b4=>?_
 refine el_EA (b3 j x v hj) fun y e1 e2=>?_
 exact Name_function_global V.kd hko (loadGlobal_global (by rw [V.gl];exact b1.keeps fun b o e=>I.zin _ _ (I.base _ _ e)) e2 (h y e1)) hd.1
theorem blt_any (G:GlobOk g) {x:Str} {y:Value} {pos:Pos} (hm:(x,NameKind.globalImplicit)∈nm) (hj:(x,y)∈BT) {A:Around} {Fs:List Addr} {env:Env} {s:Shared} {Z:Zone} {H:Hp} {R E:Value→Shared→Prop}
  (V:EnvOk env nm) (I:Inv g.prog g.w g.B Fs Z H s.heap) (h:R y s):wpAny (model g.prog g.w) A (eval (.Name x pos) env) R E s:=by
 have hko:env.kindOf x=some .globalImplicit:=by show env.scope.names.lookup x=_;rw [V.sc];exact lookup_mem V.nd hm
 have hd:=V.db _ hm
 refine el_EEAAA G.gt fun mg mb b1 b2 b3 b4=>?_
 obtain ⟨e1,e2⟩:=b4 x y hj
 have k:∀ b o,g.B.get? b=some o→s.heap.get? b=some o:=fun b o e=>I.zin _ _ (I.base _ _ e)
 exact Name_function_global V.kd hko (loadGlobal_builtin (by rw [V.gl];exact b1.keeps k) e1 (by rw [V.bl];exact b2.keeps k) e2 h) hd.1
theorem snd_glb (G:GlobOk g) {j:Nat} {x:Str} {v:V} {pos:Pos} (hm:(x,NameKind.globalImplicit)∈nm) (hj:GT[j]?=some (x,v)):Snd g nm (.Name x pos) (.glb j):=by
 intro n A Fs env m s Z H Q X D V w I L
 have w:(match GT[j]? with
  | some (_,v)=>Q v H
  | none=>False):=w
 rw [hj] at w
 exact glob_any G hm hj V I fun y vr=>.here (t:=s.toks) I (vr _) w
theorem snd_int {i:Int} {k:Nat} {pos:Pos}:Snd g nm (.Constant (.int i) k pos) (.int i):=by
 intro n A Fs env m s Z H Q X D V w I L
 exact wpAny_mkInt (.here I (by simp only [VR];exact ⟨_,rfl⟩) w)
theorem snd_str {i:Str} {k:Nat} {pos:Pos}:Snd g nm (.Constant (.str i) k pos) (.str i):=by
 intro n A Fs env m s Z H Q X D V w I L
 exact Constant_str (.here I (by simp only [VR];exact ⟨_,rfl⟩) w)
theorem snd_bool {i:Bool} {k:Nat} {pos:Pos}:Snd g nm (.Constant (.bool i) k pos) (.bool i):=by
 intro n A Fs env m s Z H Q X D V w I L
 exact Constant_bool (.here (t:=s.toks) I (by rfl) w)
theorem snd_none {k:Nat} {pos:Pos}:Snd g nm (.Constant .none k pos) .none:=by
 intro n A Fs env m s Z H Q X D V w I L
 exact Constant_none (.here (t:=s.toks) I (by rfl) w)
theorem snd_neg {i:Int} {k:Nat} {p pos:Pos}:Snd g nm (.UnaryOp .USub (.Constant (.int i) k p) pos) (.neg i):=by
 intro n A Fs env m s Z H Q X D V w I L
 refine UnaryOp_ (wpAny_mkInt ?_)
 exact PyProof.Rows.neg_int (.here (s:=s) I (by simp only [VR];exact ⟨_,rfl⟩) w)
theorem snd_bin (G:GlobOk g) {op:Op2} {pa pb:PySem.Expr} {a b:E} {pos:Pos} (Sa:Snd g nm pa a) (Sb:Snd g nm pb b):Snd g nm (.BinOp pa op.toOp pb pos) (.bin op a b):=by
 intro n A Fs env m s Z H Q X D V w I L
 refine wpAny_BinOp (Sa.use D V w I L .refl (fun u0 u0 x=>x) fun y v s1 Z1 H1 go1 I1 L1 u0 vr w1=>?_)
 refine Sb.use D V w1 I1 L1 go1 (fun u0 u0 x=>x) fun y2 v2 s2 Z2 H2 go2 I2 L2 ex vr2 w2=>?_
 exact wpAny_mono (binW_run G w2 I2 (VR.mono ex.seq _ _ vr) vr2) (fun u0 u0 q=>q.step go2) fun u0 u0 q=>q
theorem snd_cmp (G:GlobOk g) {op:CmpOp} {pa pb:PySem.Expr} {a b:E} {pos:Pos} (Sa:Snd g nm pa a) (Sb:Snd g nm pb b) (hm:behindInMarks op pb=false):Snd g nm (.Compare pa [op] [pb] pos) (.cmp op a b):=by
 intro n A Fs env m s Z H Q X D V w I L
 refine wpAny_Compare1 (Sa.use D V w I L .refl (fun u0 u0 x=>x) fun y v s1 Z1 H1 go1 I1 L1 u0 vr w1=>?_) hm
 refine Sb.use D V w1 I1 L1 go1 (fun u0 u0 x=>x) fun y2 v2 s2 Z2 H2 go2 I2 L2 ex vr2 w2=>?_
 exact wpAny_mono (cmpW_run G D w2 I2 (VR.mono ex.seq _ _ vr) vr2) (fun u0 u0 q=>(q.toOk I2 fun c hc=>hc).step go2) fun u0 u0 q=>q
theorem sndB_cmp (G:GlobOk g) {op:CmpOp} {pa pb:PySem.Expr} {a b:E} {pos:Pos} (Sa:Snd g nm pa a) (Sb:Snd g nm pb b) (hm:behindInMarks op pb=false):SndB g nm (.Compare pa [op] [pb] pos) (.cmp op a b):=by
 intro n A Fs env m s Z H Q X D V w I L
 refine wpAny_isTrue_Compare1 (Sa.use D V w I L .refl (fun u0 u0 x=>x) fun y v s1 Z1 H1 go1 I1 L1 u0 vr w1=>?_) hm
 refine Sb.use D V w1 I1 L1 go1 (fun u0 u0 x=>x) fun y2 v2 s2 Z2 H2 go2 I2 L2 ex vr2 w2=>?_
 refine wpAny_mono (cmpW_run G D w2 I2 (VR.mono ex.seq _ _ vr) vr2) (fun y s3 q=>?_) fun u0 u0 q=>q
 refine el_EEAA q fun c t rf2 rf3 hk=>?_;subst rf2;subst rf3
 exact wpAny_truthy_bool ((OkB.toks I2 hk).step go2)
theorem snd_and {pa pb:PySem.Expr} {a b:E} {pos:Pos} (Sa:Snd g nm pa a) (Sb:Snd g nm pb b):Snd g nm (.BoolOp .And [pa,pb] pos) (.and a b):=by
 intro n A Fs env m s Z H Q X D V w I L
 refine BoolOp_and (Sa.use D V w I L .refl (fun u0 u0 x=>x) fun y v s1 Z1 H1 go1 I1 L1 u0 vr w1=>?_)
 refine el_EA (boolW_el w1) fun t rf1 w1=>?_;subst rf1
 ·skip
  simp only [VR] at vr
  subst vr
  refine wpAny_truthy_bool ?_
  cases t with
  | true=>exact Sb.use D V (w1.t rfl) I1 L1 go1 (fun u0 u0 x=>x) fun y2 v2 s2 Z2 H2 go2 I2 L2 ex vr2 w2=>⟨_,_,_,go2,I2,vr2,w2⟩
  | false=>exact ⟨_,_,_,go1,I1,by rfl,w1.f rfl⟩
theorem snd_or {pa pb:PySem.Expr} {a b:E} {pos:Pos} (Sa:Snd g nm pa a) (Sb:Snd g nm pb b):Snd g nm (.BoolOp .Or [pa,pb] pos) (.or a b):=by
 intro n A Fs env m s Z H Q X D V w I L
 refine BoolOp_or (Sa.use D V w I L .refl (fun u0 u0 x=>x) fun y v s1 Z1 H1 go1 I1 L1 u0 vr w1=>?_)
 refine el_EA (boolW_el w1) fun t rf1 w1=>?_;subst rf1
 ·skip
  simp only [VR] at vr
  subst vr
  refine wpAny_truthy_bool ?_
  cases t with
  | false=>exact Sb.use D V (w1.f rfl) I1 L1 go1 (fun u0 u0 x=>x) fun y2 v2 s2 Z2 H2 go2 I2 L2 ex vr2 w2=>⟨_,_,_,go2,I2,vr2,w2⟩
  | true=>exact ⟨_,_,_,go1,I1,by rfl,w1.t rfl⟩
theorem sndB_and {pa pb:PySem.Expr} {a b:E} {pos:Pos} (Sa:SndB g nm pa a) (Sb:SndB g nm pb b):SndB g nm (.BoolOp .And [pa,pb] pos) (.and a b):=by
 intro n A Fs env m s Z H Q X D V w I L
 have w':wE g n a m (BoolQ fun t H1=>Br t (wE g n b m (BoolQ Q) X H1) (Q false H1)) X H:=w
 refine isTrue_and (Sa.use D V w' I L .refl (fun u0 u0 x=>x) fun t s1 Z1 H1 go1 I1 L1 u0 w1=>?_)
 cases t with
 | true=>
  refine isTrue_and (Sb.use D V (w1.t rfl) I1 L1 go1 (fun u0 u0 x=>x) fun t s2 Z2 H2 go2 I2 L2 u0 w2=>?_)
  cases t with
  | true=>exact isTrue_and_nil (in_EEAA _ _ go2 I2 w2)
  | false=>exact (in_EEAA _ _ go2 I2 w2)
 | false=>exact (in_EEAA _ _ go1 I1 (w1.f rfl))
theorem sndB_or {pa pb:PySem.Expr} {a b:E} {pos:Pos} (Sa:SndB g nm pa a) (Sb:SndB g nm pb b):SndB g nm (.BoolOp .Or [pa,pb] pos) (.or a b):=by
 intro n A Fs env m s Z H Q X D V w I L
 have w':wE g n a m (BoolQ fun t H1=>Br t (Q true H1) (wE g n b m (BoolQ Q) X H1)) X H:=w
 refine isTrue_or (Sa.use D V w' I L .refl (fun u0 u0 x=>x) fun t s1 Z1 H1 go1 I1 L1 u0 w1=>?_)
 cases t with
 | false=>
  refine isTrue_or (Sb.use D V (w1.f rfl) I1 L1 go1 (fun u0 u0 x=>x) fun t s2 Z2 H2 go2 I2 L2 u0 w2=>?_)
  cases t with
  | false=>exact isTrue_or_nil (in_EEAA _ _ go2 I2 w2)
  | true=>exact (in_EEAA _ _ go2 I2 w2)
 | true=>exact (in_EEAA _ _ go1 I1 (w1.t rfl))
theorem sndB_not {pa:PySem.Expr} {a:E} {pos:Pos} (Sa:SndB g nm pa a):SndB g nm (.UnaryOp .Not pa pos) (.not a):=by
 intro n A Fs env m s Z H Q X D V w I L
 have w':wE g n a m (BoolQ fun t H1=>Q (!t) H1) X H:=w
 exact isTrue_not (Sa.use D V w' I L .refl (fun u0 u0 x=>x) fun t s1 Z1 H1 go1 I1 L1 u0 w1=>(in_EEAA _ _ go1 I1 w1))
theorem snd_not {pa:PySem.Expr} {a:E} {pos:Pos} (Sa:Snd g nm pa a):Snd g nm (.UnaryOp .Not pa pos) (.not a):=by
 intro n A Fs env m s Z H Q X D V w I L
 refine UnaryOp_ (Sa.use D V w I L .refl (fun u0 u0 x=>x) fun y v s1 Z1 H1 go1 I1 L1 u0 vr w1=>?_)
 refine el_EA (boolW_el w1) fun t rf1 w1=>?_;subst rf1
 ·skip
  simp only [VR] at vr
  subst vr
  exact not_of (wpAny_truthy_bool ⟨_,_,_,go1,I1,by simp only [VR],w1⟩)
theorem sndB_plain {pa:PySem.Expr} {a:E} (Sa:Snd g nm pa a) (he:∀ env whole,isTrue pa env whole=(do let v ← whole;standAt pa.pos;holding [v] (truthy v))):SndB g nm pa a:=by
 intro n A Fs env m s Z H Q X D V w I L
 refine isTrue_plain (Sa.use D V w I L .refl (fun u0 u0 x=>x) fun y v s1 Z1 H1 go1 I1 L1 u0 vr w1=>?_) (he _ _)
 refine el_EA (boolW_el w1) fun t rf1 w1=>?_;subst rf1
 ·skip
  simp only [VR] at vr
  subst vr
  exact wpAny_truthy_bool (in_EEAA _ _ go1 I1 w1)
theorem snd_ite {pc pa pb:PySem.Expr} {c a b:E} {pos:Pos} (Sc:SndB g nm pc c) (Sa:Snd g nm pa a) (Sb:Snd g nm pb b):Snd g nm (.IfExp pc pa pb pos) (.ite c a b):=by
 intro n A Fs env m s Z H Q X D V w I L
 have w':wE g n c m (BoolQ fun t H1=>Br t (wE g n a m Q X H1) (wE g n b m Q X H1)) X H:=w
 refine IfExp_ (Sc.use D V w' I L .refl (fun u0 u0 x=>x) fun t s1 Z1 H1 go1 I1 L1 u0 w1=>?_)
 cases t with
 | true=>exact Sa.use D V (w1.t rfl) I1 L1 go1 (fun u0 u0 x=>x) fun y2 v2 s2 Z2 H2 go2 I2 L2 ex vr2 w2=>⟨_,_,_,go2,I2,vr2,w2⟩
 | false=>exact Sb.use D V (w1.f rfl) I1 L1 go1 (fun u0 u0 x=>x) fun y2 v2 s2 Z2 H2 go2 I2 L2 ex vr2 w2=>⟨_,_,_,go2,I2,vr2,w2⟩
end
end Mine
namespace Mine
noncomputable def OkEs (g:G) (Fs:List Addr) (Z:Zone) (s:Shared) (Q:List V→Hp→Prop) (ys:List Value) (s':Shared):Prop:=
 ∃ vs Z' H',Go Fs Z s Z' s'∧Inv g.prog g.w g.B Fs Z' H' s'.heap∧VRs Z' vs ys∧Q vs H'
structure SndEs (g:G) (nm:List (Str × NameKind)) (pes:List PySem.Expr) (es:Es):Prop where
 star:∀ env pos,(backTo pos (starEach pes env)).any (·.1)=false
 go:∀ (n:Nat) (A:Around) (Fs:List Addr) (env:Env) (m:Loc) (s:Shared) (Z:Zone) (H:Hp) (Q:List V→Hp→Prop) (X:QX) (pos:Pos),Gd A Fs n→EnvOk env nm →
  wEs g n es m Q X H→Inv g.prog g.w g.B Fs Z H s.heap→LocR nm env m Fs Z s.heap→wpAny (model g.prog g.w) A (spliced (backTo pos (starEach pes env))) (OkEs g Fs Z s Q) (ExE g Fs Z s X) s
section
variable {g:G} {nm:List (Str × NameKind)}
theorem sndEs_nil:SndEs g nm [] .nil:=by
 refine ⟨fun u0 u0=>rfl,?_⟩
 intro n A Fs env m s Z H Q X pos D V w I L
 exact spliced_nil (in_EEEAAA ([]) Z H .refl I .nil w)
theorem sndEs_cons {pe:PySem.Expr} {pes:List PySem.Expr} {e:E} {es:Es} (S:Snd g nm pe e) (Ss:SndEs g nm pes es) (hst:∀ env,starEach (pe::pes) env=(false,eval pe env)::starEach pes env):SndEs g nm (pe::pes) (.cons e es):=by
 refine ⟨fun env pos=>?_,?_⟩
 ·rw [hst];show (false||(backTo pos (starEach pes env)).any (·.1))=false;rw [Ss.star];rfl
 intro n A Fs env m s Z H Q X pos D V w I L
 rw [hst]
 refine spliced_cons (S.use D V w I L .refl (fun u0 u0 x=>x) fun y v s1 Z1 H1 go1 I1 L1 u0 vr w1=>?_)
 refine wpAny_mono (Ss.go n A Fs env m s1 Z1 H1 _ X pos D V w1 I1 L1) (fun ys s2 q=>?_) fun u0 u0 x=>x.step go1
 refine el_EEEAAA q fun vs Z2 H2 go2 I2 r q=>?_
 exact (in_EEEAAA (v::vs) Z2 H2 (go1.trans go2) I2 (.cons (VR.mono go2.ext.seq _ _ vr) r) q)
theorem snd_tup {pes:List PySem.Expr} {es:Es} {k:Nat} {pos:Pos} (Ss:SndEs g nm pes es):Snd g nm (.Tuple pes k pos) (.tup es):=by
 intro n A Fs env m s Z H Q X D V w I L
 refine Tuple_ (wpAny_mono (Ss.go n A Fs env m s Z H _ X pos D V w I L) (fun ys s1 q=>?_) fun u0 u0 x=>x)
 refine el_EEEAAA q fun vs Z1 H1 go1 I1 r rt6=>?_;obtain ⟨sz,q⟩:=rt6
 have hl:ys.length≤2 ^ 20:=by rw [← r.length];exact sz
 refine wpAny_newObj_type ?_ (by show ys.toArray.size≤sizeLine;rw [List.size_toArray,sizeLine_eq];exact ln 0x41f1b010000003011b14401110 rfl hl)
 exact (tup_run (ys:=ys.toArray) (t:=s1.toks) q (ln 0x41f1b184011b14401110 rfl sz) I1 r (keeps_push _ _) (Nat.le_refl _) (Heap.get?_push_size _ rfl)).step go1
theorem snd_lst (G:GlobOk g) {pes:List PySem.Expr} {es:Es} {pos:Pos} (Ss:SndEs g nm pes es):Snd g nm (.List pes pos) (.lst es):=by
 intro n A Fs env m s Z H Q X D V w I L
 refine List_ (wpAny_mono (Ss.go n A Fs env m s Z H _ X pos D V w I L) (fun ys s1 q=>?_) fun u0 u0 x=>x)
 refine el_EEEAAA q fun vs Z1 H1 go1 I1 r q=>?_
 have hl:ys.length≤2 ^ 24:=by rw [← r.length];exact q.sz
 refine wpAny_newObj_type ?_ (by show ys.toArray.size≤sizeLine;rw [List.size_toArray,sizeLine_eq];exact hl)
 exact (q.run (ys:=ys.toArray) (t:=s1.toks) I1 r (keeps_push _ _) (Nat.le_refl _) G.three (Heap.get?_push_size _ rfl)).step go1
theorem snd_dict (G:GlobOk g) {pos:Pos}:Snd g nm (.Dict [] [] pos) .dict:=by
 intro n A Fs env m s Z H Q X D V w I L
 show wpAny _ _ (do standAt pos;dictDisplay []) _ _ _
 refine wpAny_bind (wpAny_standAt ?_)
 show wpAny _ _ newDict _ _ _
 refine wpAny_newObj_type ?_ (by show (0:Nat)≤_;exact Nat.zero_le _)
 have ha:=size_none s.heap
 refine ⟨.ref s.heap.objs.size,Z,_,⟨.refl _,.of_keeps (keeps_push _ _),.refl _⟩,I.ownNew (keeps_push _ _) (I.three G.three (Nat.le_refl _)) ha (o:=.dict []) (fun u0=>(in_EEAAA _ ([]) (Heap.get?_push_size _ rfl) ?_ (by exact Nat.zero_le _) rfl)) (fun u0 u0 q=>by trivial),by rfl,w.go _ (I.hNone ha).1⟩
 exact (in_EEAAA (#[]) 0 (in_AA rfl rfl rfl) rfl (fun e he=>by simp at he) ⟨.nil,.nil⟩)
theorem snd_cmp2 (G:GlobOk g) {o1 o2:CmpOp} {pa pb pc:PySem.Expr} {a b c:E} {pos:Pos} (Sa:Snd g nm pa a) (Sb:Snd g nm pb b) (Sc:Snd g nm pc c) (hm:lastMarks [o1,o2] [pb,pc]=false):Snd g nm (.Compare pa [o1,o2] [pb,pc] pos) (.cmp2 o1 o2 a b c):=by
 intro n A Fs env m s Z H Q X D V w I L
 refine Compare_chain (Sa.use D V w I L .refl (fun u0 u0 x=>x) fun y v s1 Z1 H1 go1 I1 L1 u0 vr w1=>?_) hm
 refine chain_link (Sb.use D V w1 I1 L1 go1 (fun u0 u0 x=>x) fun y2 v2 s2 Z2 H2 go2 I2 L2 ex vr2 w2=>?_)
 refine wpAny_mono (cmpW_run G D w2 I2 (VR.mono ex.seq _ _ vr) vr2) (fun y3 s3 q=>?_) fun u0 u0 q=>q
 refine el_EEAA q fun t k rf2 rf3 hk=>?_;subst rf2;subst rf3
 have go3:Go Fs Z s Z2 { s2 with toks:=k }:=go2.trans ⟨.refl _,.refl _ _,(in_AA rfl rfl rfl)⟩
 refine wpAny_truthy_bool ?_
 cases t with
 | false=>exact ⟨_,_,_,go3,I2,by rfl,hk.f rfl⟩
 | true=>
  refine chain_last (Sc.use (s:={ s2 with toks:=k }) D V (hk.t rfl) I2 L2 go3 (fun u0 u0 x=>x) fun y4 v4 s4 Z4 H4 go4 I4 L4 ex4 vr4 w4=>?_)
  exact wpAny_mono (cmpW_run G D w4 I4 (VR.mono ex4.seq _ _ vr2) vr4) (fun u0 u0 q=>(q.toOk I4 fun c hc=>hc).step go4) fun u0 u0 q=>q
theorem sndB_cmp2 (G:GlobOk g) {o1 o2:CmpOp} {pa pb pc:PySem.Expr} {a b c:E} {pos:Pos} (Sa:Snd g nm pa a) (Sb:Snd g nm pb b) (Sc:Snd g nm pc c) (hm:lastMarks [o1,o2] [pb,pc]=false):SndB g nm (.Compare pa [o1,o2] [pb,pc] pos) (.cmp2 o1 o2 a b c):=by
 intro n A Fs env m s Z H Q X D V w I L
 refine isTrue_chain (Sa.use D V w I L .refl (fun u0 u0 x=>x) fun y v s1 Z1 H1 go1 I1 L1 u0 vr w1=>?_) hm
 refine test_link (Sb.use D V w1 I1 L1 go1 (fun u0 u0 x=>x) fun y2 v2 s2 Z2 H2 go2 I2 L2 ex vr2 w2=>?_)
 refine wpAny_mono (cmpW_run G D w2 I2 (VR.mono ex.seq _ _ vr) vr2) (fun y3 s3 q=>?_) fun u0 u0 q=>q
 refine el_EEAA q fun t k rf2 rf3 hk=>?_;subst rf2;subst rf3
 have go3:Go Fs Z s Z2 { s2 with toks:=k }:=go2.trans ⟨.refl _,.refl _ _,(in_AA rfl rfl rfl)⟩
 refine wpAny_truthy_bool ?_
 cases t with
 | false=>exact (in_EEAA _ _ go3 I2 (hk.f rfl))
 | true=>
  refine test_last (Sc.use (s:={ s2 with toks:=k }) D V (hk.t rfl) I2 L2 go3 (fun u0 u0 x=>x) fun y4 v4 s4 Z4 H4 go4 I4 L4 ex4 vr4 w4=>?_)
  refine wpAny_mono (cmpW_run G D w4 I4 (VR.mono ex4.seq _ _ vr2) vr4) (fun y s5 q=>?_) fun u0 u0 q=>q
  refine el_EEAA q fun c t rf2 rf3 hk=>?_;subst rf2;subst rf3
  exact wpAny_truthy_bool ((OkB.toks I4 hk).step go4)
theorem evalArgs_all {M:Model} {A:Around} {E:Value→Shared→Prop} {s:Shared} {f:Value} {ts:List (Bool × Sem Value)} {Q:Args→Shared→Prop} (hp:ts.any (·.1)=false)
  (h:wpAny M A (spliced ts) (fun vs s'=>Q ⟨vs,[]⟩ s') E s):wpAny M A (evalArgs f true ts []) Q E s:=by
 cases ts with
 | nil=>
  unfold evalArgs
  show wpAny M A (spliced [] >>= _) Q E s
  refine wpAny_bind (wpAny_mono h (fun vs s' h'=>?_) fun u0 u0 x=>x)
  refine wpAny_bind (wpAny_pure ?_)
  refine wpAny_holding ?_
  exact wpAny_bind (wpAny_pure (wpAny_bind (wpAny_pure (wpAny_pure h'))))
 | cons t r=>
  obtain ⟨b,x⟩:=t
  cases b with
  | true=>trivial
  | false=>exact evalArgs_plain h
theorem Gd.pred {A:Around} {Fs:List Addr} {n:Nat} (D:Gd A Fs (n+1)):Gd A Fs n:=⟨D.frames,D.handled,by have:=D.depth;exact ln 0x41f0b219000000143904711010b21900000014390479121101130 rfl this,by have:=D.units;exact ln 0x41f0b219000000643914711010b21900000064391479121101130 rfl this⟩
theorem callW_K (G:GlobOk g) {f:Addr} (hk:keepIn g.K (.ref f)=true) {pas:List PySem.Expr} {as:Es} (Ss:SndEs g nm pas as) {n:Nat} {A:Around} {Fs:List Addr} {env:Env} {m:Loc} {s₀ s:Shared} {Z₀ Z:Zone} {H:Hp} {Q:QV} {X:QX} {pos:Pos}
  {first:List Value} {firstV:List V} (D:Gd A Fs (n+1)) (V:EnvOk env nm) (w:wEs g (n+1) as m (fun vs H1=>CallW g n f (firstV++vs) Q X H1) X H) (I:Inv g.prog g.w g.B Fs Z H s.heap) (L:LocR nm env m Fs Z s.heap) (go:Go Fs Z₀ s₀ Z s)
  (fr:VRs Z firstV first) :
  wpAny (model g.prog g.w) A (callWith pos (.ref f) first (backTo pos (starEach pas env)) []) (OkE g Fs Z₀ s₀ Q) (ExE g Fs Z₀ s₀ X) s:=by
 refine callWith_of (P:=fun h=>g.K.In h) (by rw [Ss.star];rfl) (keeps_K hk) (evalArgs_all (Ss.star _ _) (wpAny_mono (Ss.go _ A Fs env m s Z H _ X pos D V w I L) (fun ys s1 q=>?_) fun u0 u0 x=>x.step go))
 refine el_EEEAAA q fun vs Z1 H1 go1 I1 r q=>?_
 refine ⟨G.kin.keeps fun b o e=>I1.zin _ _ (I1.base _ _ e),?_⟩
 exact wpAny_mono (q.go A Fs s1 Z1 _ D.pred I1 (VRs.append (VRs.mono go1.ext.seq _ _ fr) r)) (fun u0 u0 x=>x.step (go.trans go1)) fun u0 u0 x=>x.step (go.trans go1)
theorem snd_call (G:GlobOk g) {j:Nat} {x:Str} {f:Addr} {pas:List PySem.Expr} {as:Es} {p pos:Pos} (hm:(x,NameKind.globalImplicit)∈nm) (hj:GT[j]?=some (x,.fn f)) (Ss:SndEs g nm pas as) :
  Snd g nm (.Call (.Name x p) pas [] pos) (.call j as):=by
 intro n A Fs env m s Z H Q X D V w I L
 conv at w=>whnf
 cases n with
 | zero=>exact w.elim
 | succ n=>
  simp only [hj] at w
  show wpAny _ _ (eval (.Name x p) env >>= fun fv=>callWith pos fv [] (backTo pos (starEach pas env)) []) _ _ _
  refine wpAny_bind (glob_any G hm hj V I fun y vr=>?_)
  have:=vr Z
  simp only [VR] at this
  subst this
  exact callW_K G (G.kp _ (.inl ⟨x,List.mem_of_getElem? hj⟩)) Ss (firstV:=[]) D V w I L .refl .nil
theorem snd_bcall (G:GlobOk g) {f:Blt} {pas:List PySem.Expr} {as:Es} {x:Str} {p pos:Pos} (hm:(x,NameKind.globalImplicit)∈nm) (hj:(x,Value.builtin f.id)∈BT) (Ss:SndEs g nm pas as) :
  Snd g nm (.Call (.Name x p) pas [] pos) (.bcall f as):=by
 intro n A Fs env m s Z H Q X D V w I L
 show wpAny _ _ (eval (.Name x p) env >>= fun fv=>callWith pos fv [] (backTo pos (starEach pas env)) []) _ _ _
 refine wpAny_bind (blt_any G hm hj V I ?_)
 refine callWith_of (P:=fun u0=>True) (by rw [Ss.star];rfl) (fun u0 u0=>(in_EA .machine (.inr (.inl rfl)) .now)) (evalArgs_all (Ss.star _ _) (wpAny_mono (Ss.go _ A Fs env m s Z H _ X pos D V w I L) (fun ys s1 q=>?_) fun u0 u0 x=>x))
 refine el_EEEAAA q fun vs Z1 H1 go1 I1 r q=>?_
 exact ⟨trivial,wpAny_mono (bltW_run G D q I1 r) (fun u0 u0 x=>x.step go1) fun u0 u0 x=>x⟩
end
end Mine
namespace Mine
theorem AT_nodup:AT.Nodup:=by decide +kernel
theorem AT_inj {j k:Nat} {x:Str} (h:AT[j]?=some x) (h':AT[k]?=some x):j=k:=by
 obtain ⟨hj,ej⟩:=List.getElem?_eq_some_iff.mp h
 obtain ⟨hk,ek⟩:=List.getElem?_eq_some_iff.mp h'
 have p:=List.pairwise_iff_getElem.mp AT_nodup
 rcases Nat.lt_trichotomy j k with q | q | q
 ·exact absurd (ej.trans ek.symm) (p j k hj hk q)
 ·exact q
 ·exact absurd (ek.trans ej.symm) (p k j hk hj q)
theorem handed_of {Z:Zone} {v:V} {y:Value} (r:VR Z v y):handedIn y=true:=by
 cases v<;>simp only [VR] at r
 case none=>subst r;rfl
 case bool=>subst r;rfl
 case int=>obtain ⟨t,rfl⟩:=r;rfl
 case str=>obtain ⟨t,rfl⟩:=r;rfl
 case lst=>refine el_EEEA r fun u0 u0 u0 rf3 u0=>?_;subst rf3;rfl
 case tup=>refine el_EEEA r fun u0 u0 u0 rf3 u0=>?_;subst rf3;rfl
 case ref=>subst r;rfl
 case fn=>subst r;rfl
theorem isStr_ne {x n:Str} {t:Tok} (h:n≠x):(Value.str n t).isStr x=false:=by
 show (n==x)=false
 exact beq_false_of_ne h
theorem isStr_eq {n:Str} {t:Tok}:(Value.str n t).isStr n=true:=by
 show (n==n)=true
 exact decide_eq_true rfl
theorem AttR.look {Z:Zone} {k:Nat} {x:Str} {v:V} (hk:AT[k]?=some x):∀ {fs:List (Nat × V)} {es:List DictEntry},AttR Z fs es→getF k fs=some v→∃ y,getL x es=some (some y)∧VR Z v y
 | [],_,_,e=>by trivial
 | (j,u)::fs,_,⟨e,r,n,t,h1,h2,h3,h4,h5⟩,h=>by
  subst h1
  unfold getF at h
  by_cases q:j=k
  ·subst q
   rw [hk] at h2
   cases h2
   simp only [show Nat.beq j j=true from Nat.beq_refl j,Option.some.injEq] at h
   subst h
   exact (in_EA e.val (by simp [getL,h3,isStr_eq]) h4)
  ·have:Nat.beq j k=false:=by cases h':Nat.beq j k with | false=>rfl | true=>exact absurd (Nat.eq_of_beq_eq_true h') q
   simp only [this] at h
   refine el_EA (AttR.look hk h5 h) fun y e1 e2=>?_
   have hne:n≠x:=fun z=>q (AT_inj h2 (z▸hk))
   refine (in_EA y ?_ e2)
   unfold getL at e1 ⊢
   rw [List.find?_cons,h3,isStr_ne hne,List.any_cons]
   have:e.refKey=false:=by unfold DictEntry.refKey;exact h3▸rfl
   rw [this,Bool.false_or]
   exact e1
theorem AttR.miss {Z:Zone} {x:Str}:∀ {fs:List (Nat × V)} {es:List DictEntry},AttR Z fs es→(∀ p∈fs,∀ n,AT[p.1]?=some n→n≠x)→getL x es=some none
 | [],_,r,_=>by obtain rfl:_=[]:=r;rfl
 | (j,u)::fs,_,⟨e,r,n,t,h1,h2,h3,h4,h5⟩,h=>by
  subst h1
  have ih:=AttR.miss h5 fun p hp=>h p (.tail _ hp)
  have hne:n≠x:=h _ (.head _) n h2
  unfold getL at ih ⊢
  rw [List.find?_cons,h3,isStr_ne hne,List.any_cons]
  have:e.refKey=false:=by unfold DictEntry.refKey;rw [h3]
  rw [this,Bool.false_or]
  exact ih
section
variable {g:G} {nm:List (Str × NameKind)}
theorem inst_of {Fs:List Addr} {Z:Zone} {H:Hp} {h:Heap} (I:Inv g.prog g.w g.B Fs Z H h) {a C:Addr} {fs:List (Nat × V)} (ha:H a=some (.inst C fs)) :
  ∃ d es m,InstAt h a (instObj C d) C (some (dictOf es m))∧h.get? d=some (dictOf es m)∧AttR Z fs es∧es.length≤1000∧∀ p∈fs,fldOk C p.1 FT=true:=by
 obtain ⟨δ,o1,-⟩:=I.own
 obtain ⟨⟨e1,⟨es,m,e2,e3,e4⟩,e5⟩,-⟩:=o1 _ _ ha
 exact ⟨δ a,es,m,⟨e1,rfl,rfl,e2⟩,e2,e4,e3,e5⟩
theorem VRs.size {Z:Zone} {xs:List V} {ys:Array Value} (h:VRs Z xs ys.toList):xs.length=ys.size:=h.length.trans Array.length_toList
theorem Inv.listAt {Fs:List Addr} {Z:Zone} {H:Hp} {h:Heap} (I:Inv g.prog g.w g.B Fs Z H h) {a:Addr} {xs:List V} (ha:H a=some (.list xs)) :
  ∃ ys m,h.get? a=some (PySem.W.listOf ys m)∧ys.size≤2 ^ 24∧VRs Z xs ys.toList:=by
 obtain ⟨δ,o1,-⟩:=I.own
 exact (o1 _ _ ha).1
theorem snd_attr (G:GlobOk g) {po:PySem.Expr} {o:E} {k:Nat} {x:Str} {pos:Pos} (So:Snd g nm po o) (hk:AT[k]?=some x) (he:∀ env,eval (.Attribute po x pos) env=(do
   let o ← eval po env
   standAt pos.atName
   let r ← holding [o] (getAttr o x true)
   letTemporaryGo po o r
   pure r)):Snd g nm (.Attribute po x pos) (.attr o k):=by
 intro n A Fs env m s Z H Q X D V w I L
 refine Attribute_any_ (So.use D V w I L .refl (fun u0 u0 x=>x) fun y v s1 Z1 H1 go1 I1 L1 u0 vr w1=>?_) (he env)
 refine el_EA (refW_el w1) fun a rf1 w1=>?_;subst rf1
 ·skip
  simp only [VR] at vr
  subst vr
  obtain ⟨C,fs,ha,hf,u,hu,w1⟩:=w1
  refine el_EEEAAA (inst_of I1 ha) fun d es l IA e2 e4 rt6=>?_;obtain ⟨-,-⟩:=rt6
  refine el_AAA (G.fld C k x hf hk) fun f1 f2 f3 u0=>?_
  refine el_EA (e4.look hk hu) fun y g1 g2=>?_
  have K1:g.K.In s1.heap:=G.kin.keeps fun b o e=>I1.zin _ _ (I1.base _ _ e)
  refine get_value K1 IA (plainGet_of f2).1 (findObj_own f3 f1 rfl (by rw [lookIn_dict];exact g1)) (handed_of g2) ?_
  exact (OkE.here I1 g2 w1).step go1
theorem snd_meth (G:GlobOk g) {po:PySem.Expr} {o:E} {k:Nat} {x:Str} {pas:List PySem.Expr} {as:Es} {apos pos:Pos} (So:Snd g nm po o) (hk:MN[k]?=some x) (Ss:SndEs g nm pas as)
  (pl:Env→Sem Bool) (he:∀ env,eval (.Call (.Attribute po x apos) pas [] pos) env=(do
   let ov ← eval po env
   standAt apos.atName
   let (f,first) ← holding [ov] (getMethod ov x (pl env))
   callWith pos f first (backTo pos (starEach pas env)) (backToKw pos (keywordEach [] env)))):Snd g nm (.Call (.Attribute po x apos) pas [] pos) (.meth o k as):=by
 intro n A Fs env m s Z H Q X D V w I L
 cases n with
 | zero=>exact w.elim
 | succ n=>
  refine methodCall_KW (So.use D V w I L .refl (fun u0 u0 x=>x) fun y v s1 Z1 H1 go1 I1 L1 u0 vr w1=>?_) (he env)
  refine el_EA (refW_el w1) fun a rf1 w1=>?_;subst rf1
  ·skip
   simp only [VR] at vr
   subst vr
   obtain ⟨C,fs,ha,f,hf,w1⟩:=w1
   refine el_EEEAAA (inst_of I1 ha) fun d es l IA e2 e4 rt6=>?_;obtain ⟨-,e5⟩:=rt6
   refine el_AAA (G.meth C k f x hf hk) fun f1 f2 f3 f4=>?_
   have K1:g.K.In s1.heap:=G.kin.keeps fun b o e=>I1.zin _ _ (I1.base _ _ e)
   have hn:=e4.miss (x:=x) fun p hp y hy=>f4 p.1 y hy (e5 p hp)
   refine method_fn K1 IA (plainGet_of f3).1 (plainGet_of f3).2 f1 (beq_iff_eq.mp f2) (by show (lookIn x (dictOf es l)).map _=_;rw [lookIn_dict,hn];rfl) ?_
   exact callW_K G (G.kp _ (.inr (in_EE C k hf))) Ss (firstV:=[.ref a]) D V w1 I1 L1 go1 (.one (by rfl))
theorem one_star {px:PySem.Expr} (h:∀ env,starEach [px] env=[(false,eval px env)]) (env:Env) (pos:Pos):backTo pos (starEach [px] env)=[(false,eval px env)]:=by rw [h];rfl
theorem snd_append (G:GlobOk g) {po px:PySem.Expr} {o x:E} {apos pos:Pos} (So:Snd g nm po o) (Sx:Snd g nm px x) (hst:∀ env,starEach [px] env=[(false,eval px env)])
  (pl:Env→Sem Bool) (he:∀ env,eval (.Call (.Attribute po (Str.ofString "append") apos) [px] [] pos) env=(do
   let ov ← eval po env
   standAt apos.atName
   let (f,first) ← holding [ov] (getMethod ov (Str.ofString "append") (pl env))
   callWith pos f first (backTo pos (starEach [px] env)) (backToKw pos (keywordEach [] env)))):Snd g nm (.Call (.Attribute po (Str.ofString "append") apos) [px] [] pos) (.append o x):=by
 intro n A Fs env m s Z H Q X D V w I L
 refine methodCall_KW (So.use D V w I L .refl (fun u0 u0 x=>x) fun y v s1 Z1 H1 go1 I1 L1 u0 vr w1=>?_) (he env)
 refine el_EA (refW_el w1) fun a rf1 w1=>?_;subst rf1
 ·skip
  simp only [VR] at vr
  subst vr
  obtain ⟨⟨xs,hx⟩,w1⟩:=w1
  refine el_EEA (I1.listAt hx) fun ys l e1 u0=>?_
  refine lmeth e1 PySem.F.slot_list_append PySem.F.type_list_append ?_
  rw [one_star hst]
  refine P.append_list (Sx.use D V w1 I1 L1 go1 (fun u0 u0 x=>x) fun y2 v2 s2 Z2 H2 go2 I2 L2 ex vr2 w2=>?_)
  obtain ⟨xs2,hx2,hz,q⟩:=w2
  refine el_EEAA (I2.listAt hx2) fun ys2 l2 f1 f2 f3=>?_
  have hl:=f3.size
  refine (in_EEAA ys2 l2 (by rw [sizeLine_eq];exact f2) f1 ?_)
  exact (OkE.setList (t:=s2.toks) (f:=fun x_1=>x_1.push y2) (xs':=xs2++[v2]) I2 hx2 f1 (by rw [Array.size_push];exact ln 0x1f041f1b184912110b144012b1101120 rfl hz hl) (by rw [Array.toList_push];exact f3.append (.one vr2)) (by rfl) q).step go2
theorem snd_extend (G:GlobOk g) {po px:PySem.Expr} {o x:E} {apos pos:Pos} (So:Snd g nm po o) (Sx:Snd g nm px x) (hst:∀ env,starEach [px] env=[(false,eval px env)])
  (pl:Env→Sem Bool) (he:∀ env,eval (.Call (.Attribute po (Str.ofString "extend") apos) [px] [] pos) env=(do
   let ov ← eval po env
   standAt apos.atName
   let (f,first) ← holding [ov] (getMethod ov (Str.ofString "extend") (pl env))
   callWith pos f first (backTo pos (starEach [px] env)) (backToKw pos (keywordEach [] env)))):Snd g nm (.Call (.Attribute po (Str.ofString "extend") apos) [px] [] pos) (.extend o x):=by
 intro n A Fs env m s Z H Q X D V w I L
 refine methodCall_KW (So.use D V w I L .refl (fun u0 u0 x=>x) fun y v s1 Z1 H1 go1 I1 L1 u0 vr w1=>?_) (he env)
 refine el_EA (refW_el w1) fun a rf1 w1=>?_;subst rf1
 ·skip
  simp only [VR] at vr
  subst vr
  obtain ⟨⟨xs,hx⟩,w1⟩:=w1
  refine el_EEA (I1.listAt hx) fun ys l e1 u0=>?_
  refine lmeth e1 PySem.F.slot_list_extend PySem.F.type_list_extend ?_
  rw [one_star hst]
  refine P.extend_list (Sx.use D V w1 I1 L1 go1 (fun u0 u0 x=>x) fun y2 v2 s2 Z2 H2 go2 I2 L2 ex vr2 w2=>?_)
  refine el_EA (lstW_el w2) fun zs rf1 w2=>?_;subst rf1
  ·skip
   obtain ⟨xs2,hx2,hz,q⟩:=w2
   refine el_EEAA (I2.listAt hx2) fun ys2 l2 f1 f2 f3=>?_
   simp only [VR] at vr2
   refine el_EEEAAA vr2 fun b l3 us rf3 h1 h2 h3=>?_;subst rf3
   have hl:=f3.size
   have hl':=h3.size
   refine (in_EE b ys2 ⟨us,l2,l3,by rw [sizeLine_eq];exact f2,by rw [sizeLine_eq];exact ln 0x7df041f1b912010000003911310b144901212b31212b1101140 rfl hz hl hl',?_,rfl,f1,I2.zin _ _ h1,?_⟩)
   ·intro q
    simp only [Bool.and_eq_true,Builtin.List.listTooLong,decide_eq_true_eq,sizeLine_eq] at q
    exact ln 0x5f7c1f0b144921312b01312b11213b01000000391101040 rfl hz hl hl' q.2
   ·exact (OkE.setList (t:=s2.toks) (f:=fun xs=>xs++us) (xs':=xs2++zs) I2 hx2 f1 (by rw [Array.size_append];exact ln 0x7df041f1b184911310b144901212b31212b1101140 rfl hz hl hl') (by rw [Array.toList_append];exact f3.append h3) (by simp only [VR]) q).step go2
theorem erase_last {α:Type} (z:α):∀ zs:List α,(zs++[z]).eraseIdx zs.length=zs
 | []=>rfl
 | a::r=>by simp [erase_last z r]
theorem VRs.snoc {Z:Zone} {xs:List V} {x:V} {ys:List Value} (h:VRs Z (xs++[x]) ys):∃ ys' y,ys=ys'++[y]∧VRs Z xs ys'∧VR Z x y:=by
 have h1:=VRs.take xs.length h
 have h2:=VRs.drop xs.length h
 have hl:=h.length
 rw [List.take_left' rfl] at h1
 rw [List.drop_left' rfl] at h2
 simp only [VRs] at h2
 refine el_EEAA h2 fun y r e hy rf4=>?_;subst rf4
 exact (in_EEAA _ y (by rw [← e,List.take_append_drop]) h1 hy)
theorem snd_pop (G:GlobOk g) {po:PySem.Expr} {o:E} {apos pos:Pos} (So:Snd g nm po o)
  (pl:Env→Sem Bool) (he:∀ env,eval (.Call (.Attribute po (Str.ofString "pop") apos) [] [] pos) env=(do
   let ov ← eval po env
   standAt apos.atName
   let (f,first) ← holding [ov] (getMethod ov (Str.ofString "pop") (pl env))
   callWith pos f first (backTo pos (starEach [] env)) (backToKw pos (keywordEach [] env)))):Snd g nm (.Call (.Attribute po (Str.ofString "pop") apos) [] [] pos) (.pop o):=by
 intro n A Fs env m s Z H Q X D V w I L
 refine methodCall_KW (So.use D V w I L .refl (fun u0 u0 x=>x) fun y v s1 Z1 H1 go1 I1 L1 u0 vr w1=>?_) (he env)
 refine el_EA (refW_el w1) fun a rf1 w1=>?_;subst rf1
 ·skip
  simp only [VR] at vr
  subst vr
  refine el_EEA w1 fun xs x hx q=>?_
  refine el_EEAA (I1.listAt hx) fun ys l e1 e2 e3=>?_
  refine el_EEAA e3.snoc fun zs z e4 e5 e6=>?_
  have e7:ys=zs.toArray.push z:=by rw [← Array.toList_inj,e4];simp
  subst e7
  refine lmeth e1 PySem.F.slot_list_pop PySem.F.type_list_pop ?_
  refine P.pop_list (y:=z) e1 (by simp) ?_ (by rw [sizeLine_eq];exact e2)
  refine (OkE.setList (t:=s1.toks) (f:=fun xs=>xs.eraseIdxIfInBounds ((zs.toArray.push z).size - 1)) (xs':=xs) I1 hx e1 ?_ ?_ e6 q).step go1
  ·have:=e5.length
   simp [erase_last] at e2 ⊢;exact ln 0x41f1b010000003011b00ffffff301110 rfl e2
  ·simpa [erase_last] using e5
theorem snd_pop0 (G:GlobOk g) {po:PySem.Expr} {o:E} {apos pos p:Pos} {k:Nat} (So:Snd g nm po o)
  (pl:Env→Sem Bool) (he:∀ env,eval (.Call (.Attribute po (Str.ofString "pop") apos) [.Constant (.int 0) k p] [] pos) env=(do
   let ov ← eval po env
   standAt apos.atName
   let (f,first) ← holding [ov] (getMethod ov (Str.ofString "pop") (pl env))
   callWith pos f first (backTo pos (starEach [.Constant (.int 0) k p] env)) (backToKw pos (keywordEach [] env)))):Snd g nm (.Call (.Attribute po (Str.ofString "pop") apos) [.Constant (.int 0) k p] [] pos) (.pop0 o):=by
 intro n A Fs env m s Z H Q X D V w I L
 refine methodCall_KW (So.use D V w I L .refl (fun u0 u0 x=>x) fun y v s1 Z1 H1 go1 I1 L1 u0 vr w1=>?_) (he env)
 refine el_EA (refW_el w1) fun a rf1 w1=>?_;subst rf1
 ·skip
  simp only [VR] at vr
  subst vr
  refine el_EEA w1 fun xs x hx q=>?_
  refine el_EEAA (I1.listAt hx) fun ys l e1 e2 e3=>?_
  simp only [VRs] at e3
  refine el_EEAA e3 fun z zs e4 e6 e5=>?_
  have e7:ys=(z::zs).toArray:=by exact e4▸rfl
  subst e7
  refine lmeth e1 PySem.F.slot_list_pop PySem.F.type_list_pop ?_
  refine P.pop_at_list (wpAny_mkInt ?_)
  refine (in_EE _ l ⟨0,s1.toks,0,z,by rw [sizeLine_eq];exact e2,rfl,e1,by rfl,by simp [seqIndex?],by rfl,?_⟩)
  refine (OkE.setList (s:=s1) (t:=s1.toks+1) (f:=fun xs=>xs.eraseIdxIfInBounds 0) (xs':=xs) I1 hx e1 ?_ ?_ e6 q).step go1
  ·simp at e2 ⊢;exact ln 0x41f1b010000003011b00ffffff301110 rfl e2
  ·simpa using e5
end
end Mine
namespace Mine
theorem seq_lt {i:Int} {n k:Nat} (h:seqIndex? i n=some k):k < n∧-(n:Int)≤i∧i < n∧(0≤i→k=i.toNat):=by
 unfold seqIndex? at h
 by_cases c:i < 0
 ·simp only [if_pos c] at h
  by_cases d:(decide (0≤i+(n:Int))&&decide (i+(n:Int) < n))=true
  ·rw [if_pos d] at h
   simp only [Bool.and_eq_true,decide_eq_true_eq,Option.some.injEq] at d h
   have e:=Int.toNat_of_nonneg d.1
   rw [h] at e
   refine ⟨by exact ln 0x21041f0b11010c6119611002c961100601121 rfl d.2 e,by exact ln 0x841f1c0056112c961100601121 rfl e,by exact ln 0x41f0c601000c601960100111 rfl d.2,fun q=>absurd q (Int.not_le.mpr c)⟩
  ·rw [if_neg d] at h;trivial
 ·simp only [if_neg c] at h
  by_cases d:(decide (0≤i)&&decide (i < (n:Int)))=true
  ·rw [if_pos d] at h
   simp only [Bool.and_eq_true,decide_eq_true_eq,Option.some.injEq] at d h
   have e:=Int.toNat_of_nonneg d.1
   refine ⟨by rw [h] at e;exact ln 0x21041f0b11010c611002c00601121 rfl d.2 e,by exact ln 0x841f1c0056112c00601121 rfl e,d.2,fun u0=>h.symm⟩
  ·rw [if_neg d] at h;trivial
section
variable {g:G} {nm:List (Str × NameKind)}
theorem idx_list {A:Around} {s:Shared} {E:Value→Shared→Prop} {l:Addr} {ys:Array Value} {c:Nat} {i:Int} {u:Tok} {j:Nat} {v:Value} {R:Value→Shared→Prop} (hl:s.heap.get? l=some (PySem.W.listOf ys c)) (hz:ys.size≤2 ^ 24)
  (hj:seqIndex? i ys.size=some j) (hx:ys[j]?=some v) (h:R v s):wpAny (model g.prog g.w) A (getItem (.ref l) (.int i u)) R E s:=by
 have hL:s.heap.IsList l ys:=(in_EAAE _ hl rfl c rfl)
 refine el_AAA (seq_lt hj) fun b1 b2 b3 b4=>?_
 by_cases h0:0≤i
 ·exact wpAny_getItem_list hL h0 (ln 0x1041f0c3f4001b184010c60100111 rfl hz b3) (by rw [← b4 h0];exact hx) h
 ·refine kde_getNeg (vs:=ys.toList) (by simpa using hL) (ln 0x41f0c02009c0002101 rfl h0) (ln 0x1041f1c0053f41b184011c005601111 rfl hz b2) (by simpa using hj) (by simpa using hx) h
theorem VRs.at {Z:Zone} {xs:List V} {ys:Array Value} {i:Nat} {v:V} (h:VRs Z xs ys.toList) (e:xs[i]?=some v):∃ y,ys[i]?=some y∧VR Z v y:=by
 refine el_EA (h.get e) fun y a b=>?_
 exact (in_EA y (by simpa using a) b)
theorem snd_idx (G:GlobOk g) {pa pi:PySem.Expr} {a i:E} {pos:Pos} (Sa:Snd g nm pa a) (Si:Snd g nm pi i) (hs:∀ o i,subscripted pi false o i=operate [o,i] (getItem o i)):Snd g nm (.Subscript pa pi pos) (.idx a i):=by
 intro n A Fs env m s Z H Q X D V w I L
 refine Subscript_ (Sa.use D V w I L .refl (fun u0 u0 x=>x) fun y v s1 Z1 H1 go1 I1 L1 u0 vr w1=>?_)
 refine Si.use D V w1 I1 L1 go1 (fun u0 u0 x=>x) fun y2 v2 s2 Z2 H2 go2 I2 L2 ex vr2 w2=>?_
 replace vr:=VR.mono ex.seq _ _ vr
 refine el_EA (intW_el w2) fun k rf1 w2=>?_;subst rf1
 cases v with
 | tup xs=>
  simp only [VR] at vr vr2
  obtain ⟨t,rfl⟩:=vr2
  refine el_EEEAAA vr fun l c ys rf3 e2 e3 e4=>?_;subst rf3
  obtain ⟨j,hj,u,hu,q⟩:=w2
  refine el_EA (e4.at hu) fun z f1 f2=>?_
  have hT:PyProof.Rows.IsTup s2.heap l ys:=(in_EAAE _ (I2.zin _ _ e2) rfl c rfl)
  rw [e4.size] at hj
  refine el_AAA (seq_lt hj) fun b1 b2 b3 b4=>?_
  exact tail_any (in_EA _ (I2.zin _ _ e2) rfl) PySem.F.slot_tuple_getitem.lookup (PyProof.Rows.getItem_tuple hT (ln 0x1041f1c0053f41b184011c005601111 rfl e3 b2) (ln 0x1041f0c3f4001b184010c60100111 rfl e3 b3) hj f1 ((OkE.here (t:=s2.toks) I2 f2 q).step go2)) (hs _ _)
 | lst xs=>
  simp only [VR] at vr vr2
  obtain ⟨t,rfl⟩:=vr2
  refine el_EEEAAA vr fun l c ys rf3 e2 e3 e4=>?_;subst rf3
  obtain ⟨j,hj,u,hu,q⟩:=w2
  refine el_EA (e4.at hu) fun z f1 f2=>?_
  rw [e4.size] at hj
  exact tail_any (in_EA _ (I2.zin _ _ e2) rfl) slot_list_getitem.lookup (idx_list (I2.zin _ _ e2) e3 hj f1 ((OkE.here (t:=s2.toks) I2 f2 q).step go2)) (hs _ _)
 | ref a=>
  simp only [VR] at vr vr2
  obtain ⟨t,rfl⟩:=vr2
  subst vr
  rcases w2 with ⟨xs,hx,j,hj,u,hu,q⟩ | ⟨es,hx,u,hu,q⟩
  ·refine el_EEAA (I2.listAt hx) fun ys c e1 e3 e4=>?_
   refine el_EA (e4.at hu) fun z f1 f2=>?_
   rw [e4.size] at hj
   exact tail_any (in_EA _ e1 rfl) slot_list_getitem.lookup (idx_list e1 e3 hj f1 ((OkE.here (t:=s2.toks) I2 f2 q).step go2)) (hs _ _)
  ·obtain ⟨δ,o1,-⟩:=I2.own
   refine el_AA (o1 _ _ hx) fun rt0 u0 h3=>?_;obtain ⟨o,kvs,e6,e7,e8,e9⟩:=rt0
   have hm:=(Heap.dictOf_iff.mpr (in_EA o e6 e7):s2.heap.DictOf (intKind g.prog g.w) _ kvs).mapOf
   refine el_EA ((e9.look _).2 _ hu) fun z f1 f2=>?_
   exact tail_any hm.typeIs slot_dict_getitem.lookup (wpAny_getItem_of (intKind_is g.prog g.w _ t) hm f1 ((OkE.here I2 f2 q).step go2)) (hs _ _)
 | _=>exact w2.elim
theorem slice_run (G:GlobOk g) {pa lo up:PySem.Expr} {A:Around} {Fs:List Addr} {s₀ s:Shared} {Z₀ Z:Zone} {H:Hp} {Q:QV} {E:Value→Shared→Prop} {v:V} {y vl vu:Value} {lo' hi':Option Int} {pl pu:Option PySem.Expr} {p:Pos} (go:Go Fs Z₀ s₀ Z s)
  (w:withL v H fun xs=>NewL (cut xs lo' hi') Q H) (I:Inv g.prog g.w g.B Fs Z H s.heap) (r:VR Z v y) (h1:IsPart vl lo') (h2:IsPart vu hi') :
  wpAny (model g.prog g.w) A (subscriptTail pa (.Slice pl pu none p) y (.ref s.heap.objs.size)) (OkE g Fs Z₀ s₀ Q) E { s with heap:=s.heap.push { cls:=.type "slice",data:=.fields #[vl,vu,.none] } }:=by
 refine el_EEEEAAAA (withL_inv w I r) fun l ys c xs rf4 e1 e2 e3 q=>?_;subst rf4
 have hl':=Heap.get?_push_of_some (h:=s.heap) { cls:=.type "slice",data:=.fields #[vl,vu,.none] } e1
 refine tail_any (T:="list") (ops:=[.ref s.heap.objs.size,.ref l]) (in_EA _ hl' rfl) slot_list_getitem.lookup (wpAny_getItem_list_slice (items:=ys) (in_EAAE _ hl' rfl c rfl) (Heap.IsSliceOf.new ..) h1 h2 .none (by trivial) ?_ (by rw [sizeLine_eq];exact e2)) rfl
 rw [kms_pick_eq]
 refine (q.run (s:=s) (t:=s.toks) I ?_ ((keeps_push _ _).trans (keeps_push _ _)) (by rw [Heap.size_push];exact Nat.le_succ _) G.three (Heap.get?_push_size _ rfl)).step go
 show VRs Z _ (kms_pick ys.toList lo' hi')
 unfold cut kms_pick
 rw [e3.length]
 exact VRs.take _ (VRs.drop _ e3)
theorem snd_slc (G:GlobOk g) {pa pl pu:PySem.Expr} {a l u:E} {p pos:Pos} (Sa:Snd g nm pa a) (Sl:Snd g nm pl l) (Su:Snd g nm pu u):Snd g nm (.Subscript pa (.Slice (some pl) (some pu) none p) pos) (.slc a l u):=by
 intro n A Fs env m s Z H Q X D V w I L
 refine Subscript_ (Sa.use D V w I L .refl (fun u0 u0 x=>x) fun y v s1 Z1 H1 go1 I1 L1 u0 vr w1=>?_)
 refine wpAny_Slice ?_
 refine Sl.use D V w1 I1 L1 go1 (fun u0 u0 x=>x) fun y2 v2 s2 Z2 H2 go2 I2 L2 ex2 vr2 w2=>?_
 refine Su.use D V w2 I2 L2 go2 (fun u0 u0 x=>x) fun y3 v3 s3 Z3 H3 go3 I3 L3 ex3 vr3 w3=>?_
 refine wpAny_pure ?_
 refine el_EEAA (i2_el w3) fun i j rf2 rf3 w3=>?_;subst rf2;subst rf3
 ·skip
  simp only [VR] at vr2 vr3
  obtain ⟨t,rfl⟩:=vr2
  obtain ⟨t',rfl⟩:=vr3
  exact slice_run G (lo:=pl) (up:=pu) go3 w3 I3 (VR.mono (ex2.trans ex3).seq _ _ vr) (.int _ _) (.int _ _)
theorem snd_slcTo (G:GlobOk g) {pa pu:PySem.Expr} {a u:E} {p pos:Pos} (Sa:Snd g nm pa a) (Su:Snd g nm pu u):Snd g nm (.Subscript pa (.Slice none (some pu) none p) pos) (.slcTo a u):=by
 intro n A Fs env m s Z H Q X D V w I L
 refine Subscript_ (Sa.use D V w I L .refl (fun u0 u0 x=>x) fun y v s1 Z1 H1 go1 I1 L1 u0 vr w1=>?_)
 refine wpAny_Slice (wpAny_pure ?_)
 refine Su.use D V w1 I1 L1 go1 (fun u0 u0 x=>x) fun y3 v3 s3 Z3 H3 go3 I3 L3 ex3 vr3 w3=>?_
 refine wpAny_pure ?_
 refine el_EA (intW_el w3) fun a0 rf1 w3=>?_;subst rf1
 ·simp only [VR] at vr3
  obtain ⟨t',rfl⟩:=vr3
  exact slice_run G (lo:=pu) (up:=pu) go3 w3 I3 (VR.mono ex3.seq _ _ vr) .none (.int _ _)
theorem snd_slcFrom (G:GlobOk g) {pa pl:PySem.Expr} {a l:E} {p pos:Pos} (Sa:Snd g nm pa a) (Sl:Snd g nm pl l):Snd g nm (.Subscript pa (.Slice (some pl) none none p) pos) (.slcFrom a l):=by
 intro n A Fs env m s Z H Q X D V w I L
 refine Subscript_ (Sa.use D V w I L .refl (fun u0 u0 x=>x) fun y v s1 Z1 H1 go1 I1 L1 u0 vr w1=>?_)
 refine wpAny_Slice ?_
 refine Sl.use D V w1 I1 L1 go1 (fun u0 u0 x=>x) fun y3 v3 s3 Z3 H3 go3 I3 L3 ex3 vr3 w3=>?_
 refine wpAny_pure (wpAny_pure ?_)
 refine el_EA (intW_el w3) fun a0 rf1 w3=>?_;subst rf1
 ·simp only [VR] at vr3
  obtain ⟨t',rfl⟩:=vr3
  exact slice_run G (lo:=pl) (up:=pl) go3 w3 I3 (VR.mono ex3.seq _ _ vr) (.int _ _) .none
theorem snd_rev (G:GlobOk g) {pa:PySem.Expr} {a:E} {k:Nat} {p1 p2 p pos:Pos} (Sa:Snd g nm pa a):Snd g nm (.Subscript pa (.Slice none none (some (.UnaryOp .USub (.Constant (.int 1) k p1) p2)) p) pos) (.rev a):=by
 intro n A Fs env m s Z H Q X D V w I L
 refine Subscript_ (Sa.use D V w I L .refl (fun u0 u0 x=>x) fun y v s1 Z1 H1 go1 I1 L1 u0 vr w1=>?_)
 refine wpAny_Slice (wpAny_pure (wpAny_pure ?_))
 refine UnaryOp_ (wpAny_mkInt (PyProof.Rows.neg_int ?_))
 refine el_EEEEAAAA (withL_inv w1 I1 vr) fun l ys c xs rf4 e1 e2 e3 q=>?_;subst rf4
 have hl':=Heap.get?_push_of_some (h:=s1.heap) { cls:=.type "slice",data:=.fields #[.none,.none,.int (-1) (s1.toks+1)] } e1
 refine tail_any (T:="list") (ops:=[.ref l,.ref s1.heap.objs.size]) (in_EA _ hl' rfl) slot_list_getitem.lookup (wpAny_getItem_list_slice (items:=ys) (in_EAAE _ hl' rfl c rfl) (Heap.IsSliceOf.new ..) .none .none (.int _ _) (by trivial) ?_ (by rw [sizeLine_eq];exact e2)) rfl
 rw [krv_pick]
 exact (q.run (s:=s1) I1 (by simpa using e3.reverse) ((keeps_push _ _).trans (keeps_push _ _)) (by show _≤(s1.heap.push _).objs.size;rw [Heap.size_push];exact Nat.le_succ _) G.three (Heap.get?_push_size _ rfl)).step go1
theorem snd_listOf (G:GlobOk g) {px:PySem.Expr} {e:E} {x:Str} {p pos:Pos} (hm:(x,NameKind.globalImplicit)∈nm) (hj:(x,Value.type "list")∈BT) (Sx:Snd g nm px e) (hst:∀ env,starEach [px] env=[(false,eval px env)]) :
  Snd g nm (.Call (.Name x p) [px] [] pos) (.listOf e):=by
 intro n A Fs env m s Z H Q X D V w I L
 show wpAny _ _ (eval (.Name x p) env >>= fun fv=>callWith pos fv [] (backTo pos (starEach [px] env)) []) _ _ _
 refine wpAny_bind (blt_any G hm hj V I ?_)
 rw [one_star hst]
 refine callWith_of (P:=fun u0=>True) rfl (fun u0 u0=>(in_EA .machine (.inr (.inl rfl)) .now)) (evalArgs_all rfl (spliced_cons (Sx.use D V w I L .refl (fun u0 u0 x=>x) fun y v s1 Z1 H1 go1 I1 L1 u0 vr w1=>?_)))
 refine spliced_nil ⟨trivial,?_⟩
 refine el_EEEEAAAA (withL_inv w1 I1 vr) fun l ys c xs rf4 e1 e2 e3 q=>?_;subst rf4
 refine call_list_seq (hsz:=by rw [sizeLine_eq];exact e2) l (.inl rfl) e1 rfl rfl fun h' c' hk hD=>?_
 exact (q.run (s:=s1) (t:=s1.toks) I1 e3 hk (Nat.le_refl _) G.three hD).step go1
end
end Mine
namespace Mine
structure FnOk (env:Env) (L:Addr) (Fc:List Addr) (Z0:Zone):Prop where
 loc:env.locals=L
 nL:L∉Fc
 cz:∀ x c,env.cells.lookup x=some c→Z0 c=none
 cinj:∀ x y c,env.cells.lookup x=some c→env.cells.lookup y=some c→x=y
inductive OkN (g:G) (nm:List (Str × NameKind)) (env:Env) (L:Addr) (Fc:List Addr) (Z0:Zone) (s0:Shared) (N:QN) (s':Shared):Prop
 | mk (m':Loc) (Z':Zone) (H':Hp) (go:Go Fc Z0 s0 Z' s') (inv:Inv g.prog g.w g.B (L::Fc) Z' H' s'.heap) (loc:LocR nm env m' (L::Fc) Z' s'.heap) (q:N m' H'):OkN g nm env L Fc Z0 s0 N s'
inductive OkR (g:G) (L:Addr) (Fc:List Addr) (Z0:Zone) (s0:Shared) (R:QV) (y:Value) (s':Shared):Prop
 | mk (v:V) (Z':Zone) (H':Hp) (go:Go Fc Z0 s0 Z' s') (inv:Inv g.prog g.w g.B (L::Fc) Z' H' s'.heap) (vr:VR Z' v y) (q:R v H'):OkR g L Fc Z0 s0 R y s'
noncomputable def OkS (g:G) (nm:List (Str × NameKind)) (env:Env) (L:Addr) (Fc:List Addr) (Z0:Zone) (s0:Shared) (N:QN) (R:QV) (fl:Flow) (s':Shared):Prop:=match fl with
 | .next=>OkN g nm env L Fc Z0 s0 N s'
 | .ret y=>OkR g L Fc Z0 s0 R y s'
 | _=>False
inductive ExS (g:G) (L:Addr) (Fc:List Addr) (Z0:Zone) (s0:Shared) (X:QX) (e:Value) (s':Shared):Prop
 | mk (sym:Str) (Z':Zone) (H':Hp) (go:Go Fc Z0 s0 Z' s') (inv:Inv g.prog g.w g.B (L::Fc) Z' H' s'.heap) (ex:Exc cLisp Z' s'.heap e sym) (q:X sym H'):ExS g L Fc Z0 s0 X e s'
noncomputable def SndT (g:G) (nm:List (Str × NameKind)) (run:Env→Sem Flow) (W:Nat→Loc→QN→QV→QX→Hp→Prop):Prop:=
 ∀ (n:Nat) (A:Around) (L:Addr) (Fc:List Addr) (env:Env) (m:Loc) (Z0:Zone) (s0 s:Shared) (Z:Zone) (H:Hp) (N:QN) (R:QV) (X:QX),Gd A (L::Fc) n→EnvOk env nm→FnOk env L Fc Z0→(∀ b o,g.B.get? b=some o→Z0 b=some o) →
  W n m N R X H→Go Fc Z0 s0 Z s→Inv g.prog g.w g.B (L::Fc) Z H s.heap→LocR nm env m (L::Fc) Z s.heap→wpAny (model g.prog g.w) A (run env) (OkS g nm env L Fc Z0 s0 N R) (ExS g L Fc Z0 s0 X) s
noncomputable def SndS (g:G) (nm:List (Str × NameKind)) (ps:Stmt) (st:S):Prop:=SndT g nm (exec ps) fun n=>wS g n st
noncomputable def SndSs (g:G) (nm:List (Str × NameKind)) (ps:List Stmt) (st:List S):Prop:=SndT g nm (execs ps) fun n=>wSs g n st
section
variable {g:G} {nm:List (Str × NameKind)}
theorem Go.tail {L:Addr} {Fc:List Addr} {Z Z1:Zone} {s s1:Shared} (go:Go (L::Fc) Z s Z1 s1):Go Fc Z s Z1 s1:=⟨go.ext,fun b hb=>go.frk b (.tail _ hb),go.same⟩
theorem ExE.toS {L:Addr} {Fc:List Addr} {Z0 Z:Zone} {s0 s:Shared} {X:QX} {e:Value} {s':Shared} (go:Go Fc Z0 s0 Z s) (h:ExE g (L::Fc) Z s X e s'):ExS g L Fc Z0 s0 X e s':=
 let ⟨sym,Z',H',a,b,c,d⟩:=h;⟨sym,Z',H',go.trans a.tail,b,c,d⟩
theorem Snd.stm {pe:PySem.Expr} {e:E} (S:Snd g nm pe e) {n:Nat} {A:Around} {L:Addr} {Fc:List Addr} {env:Env} {m:Loc} {s₀ s:Shared} {Z₀ Z:Zone} {H:Hp} {Q:QV} {X:QX}
  {R:Value→Shared→Prop} (D:Gd A (L::Fc) n) (V:EnvOk env nm) (w:wE g n e m Q X H) (I:Inv g.prog g.w g.B (L::Fc) Z H s.heap) (LR:LocR nm env m (L::Fc) Z s.heap) (go:Go Fc Z₀ s₀ Z s)
  (h:∀ y v s1 Z1 H1,Go Fc Z₀ s₀ Z1 s1→Inv g.prog g.w g.B (L::Fc) Z1 H1 s1.heap→LocR nm env m (L::Fc) Z1 s1.heap→Ext Z Z1→VR Z1 v y→Q v H1→R y s1) :
  wpAny (model g.prog g.w) A (eval pe env) R (ExS g L Fc Z₀ s₀ X) s:=
 wpAny_mono (S n A (L::Fc) env m s Z H Q X D V w I LR) (fun y s1 ⟨v,Z1,H1,go1,I1,vr,q⟩=>h y v s1 Z1 H1 (go.trans go1.tail) I1 (LR.go go1 I1 I.zin) go1.ext vr q) fun u0 u0 x=>x.toS go
theorem SndEs.stm {pes:List PySem.Expr} {es:Es} (S:SndEs g nm pes es) {n:Nat} {A:Around} {L:Addr} {Fc:List Addr} {env:Env} {m:Loc} {s₀ s:Shared} {Z₀ Z:Zone} {H:Hp} {Q:List V→Hp→Prop} {X:QX} {pos:Pos}
  {R:List Value→Shared→Prop} (D:Gd A (L::Fc) n) (V:EnvOk env nm) (w:wEs g n es m Q X H) (I:Inv g.prog g.w g.B (L::Fc) Z H s.heap) (LR:LocR nm env m (L::Fc) Z s.heap) (go:Go Fc Z₀ s₀ Z s)
  (h:∀ y v s1 Z1 H1,Go Fc Z₀ s₀ Z1 s1→Inv g.prog g.w g.B (L::Fc) Z1 H1 s1.heap→LocR nm env m (L::Fc) Z1 s1.heap→Ext Z Z1→VRs Z1 v y→Q v H1→R y s1) :
  wpAny (model g.prog g.w) A (spliced (backTo pos (starEach pes env))) R (ExS g L Fc Z₀ s₀ X) s:=
 wpAny_mono (S.go n A (L::Fc) env m s Z H Q X pos D V w I LR) (fun y s1 ⟨v,Z1,H1,go1,I1,vr,q⟩=>h y v s1 Z1 H1 (go.trans go1.tail) I1 (LR.go go1 I1 I.zin) go1.ext vr q) fun u0 u0 x=>x.toS go
theorem SndB.stm {pe:PySem.Expr} {e:E} (S:SndB g nm pe e) {n:Nat} {A:Around} {L:Addr} {Fc:List Addr} {env:Env} {m:Loc} {s₀ s:Shared} {Z₀ Z:Zone} {H:Hp} {Q:Bool→Hp→Prop} {X:QX}
  {R:Bool→Shared→Prop} (D:Gd A (L::Fc) n) (V:EnvOk env nm) (w:wE g n e m (BoolQ Q) X H) (I:Inv g.prog g.w g.B (L::Fc) Z H s.heap) (LR:LocR nm env m (L::Fc) Z s.heap) (go:Go Fc Z₀ s₀ Z s)
  (h:∀ t s1 Z1 H1,Go Fc Z₀ s₀ Z1 s1→Inv g.prog g.w g.B (L::Fc) Z1 H1 s1.heap→LocR nm env m (L::Fc) Z1 s1.heap→Q t H1→R t s1) :
  wpAny (model g.prog g.w) A (isTrue pe env (eval pe env)) R (ExS g L Fc Z₀ s₀ X) s:=
 wpAny_mono (S n A (L::Fc) env m s Z H Q X D V w I LR) (fun y s1 ⟨Z1,H1,go1,I1,q⟩=>h y s1 Z1 H1 (go.trans go1.tail) I1 (LR.go go1 I1 I.zin) q) fun u0 u0 x=>x.toS go
theorem store_any {i:Nat} {x:Str} {k:NameKind} (hi:nm[i]?=some (x,k)) (hk:k=.local∨k=.cell) {A:Around} {L:Addr} {Fc:List Addr} {env:Env} {m:Loc} {s₀ s:Shared} {Z₀ Z:Zone} {H:Hp} {v:V} {y:Value}
  {R:Unit→Shared→Prop} {E:Value→Shared→Prop} (V:EnvOk env nm) (O:FnOk env L Fc Z₀) (B0:∀ b o,g.B.get? b=some o→Z₀ b=some o)
  (I:Inv g.prog g.w g.B (L::Fc) Z H s.heap) (LR:LocR nm env m (L::Fc) Z s.heap) (go:Go Fc Z₀ s₀ Z s) (vr:VR Z v y)
  (h:∀ s1 Z1,Go Fc Z₀ s₀ Z1 s1→Inv g.prog g.w g.B (L::Fc) Z1 H s1.heap→LocR nm env (m.set i (some v)) (L::Fc) Z1 s1.heap→SeqExt Z Z1→R () s1) :
  wpAny (model g.prog g.w) A (storeName env x y) R E s:=by
 have hko:env.kindOf x=some k:=by show env.scope.names.lookup x=_;rw [V.sc];exact lookup_get V.nd hi
 have hnames:∀ (i':Nat) x' k',nm[i']?=some (x',k')→i'≠i→x'≠x:=by
  intro i' x' k' h1 h2 h3
  subst h3
  have a1:(nm.map (·.1))[i']?=some x':=by rw [List.getElem?_map,h1];rfl
  have a2:(nm.map (·.1))[i]?=some x':=by rw [List.getElem?_map,hi];rfl
  obtain ⟨hj,ej⟩:=List.getElem?_eq_some_iff.mp a1
  obtain ⟨hk,ek⟩:=List.getElem?_eq_some_iff.mp a2
  have p:=List.pairwise_iff_getElem.mp V.nd
  rcases Nat.lt_trichotomy i' i with q | q | q
  ·exact absurd (ej.trans ek.symm) (p i' i hj hk q)
  ·exact h2 q
  ·exact absurd (ek.trans ej.symm) (p i i' hk hj q)
 have hset:∀ (i':Nat) u,(m.set i (some v))[i']?=some (some u)→(i'=i∧u=v)∨(i'≠i∧m[i']?=some (some u)):=by
  intro i' u e
  rw [List.getElem?_set] at e
  split at e
  ·rename_i q
   split at e
   ·cases e;exact .inl ⟨q.symm,rfl⟩
   ·trivial
  ·rename_i q
   exact .inr ⟨fun z=>q z.symm,e⟩
 obtain ⟨⟨m',n1,n2⟩,cs,lo,ce⟩:=LR
 have hL:=O.loc
 rcases hk with rfl | rfl
 ·refine wpAny_storeName_local hko n1 (fun h' hn hs=>?_) (by rw [V.kd];rfl)
  rw [hL] at hs hn n1
  have zL:∀ b o,Z b=some o→b≠L:=fun b o e q=>by rw [q,(I.frs L (.head _)).1] at e;trivial
  have hd:∀ b o,b≠L→s.heap.get? b=some o→h'.get? b=some o:=fun b o q e=>(hs.2 b q).trans e
  refine h _ Z ⟨go.ext,fun b hb mm e=>?_,go.same.trans (in_AA rfl rfl rfl)⟩ ?_ ⟨(in_EA _ (by rw [hL];exact hn) (fun i' x' u h1 h2=>?_)),fun i' x' k' u h1 h3 h2=>?_,.inl (by rw [hL];exact .head _),ce⟩ fun u0 u0 u0 u0 e u0=>e
  ·exact (go.frk b hb mm e).sameBut hs (fun q=>O.nL (q▸hb))
  ·obtain ⟨bb,z,f,δ,o1,o2,o3⟩:=I
   refine ⟨bb,fun b o e=>hd b o (zL b o e) (z b o e),fun b hb=>(in_AA ((f b hb).1) ((f b hb).2.1) ?_),δ,fun a o e=>⟨(o1 a o e).1.mono (fun u0 u0 u0 u0 e u0=>e) (fun x=>hd a x fun q=>?_) (fun C fs e' x=>hd _ x fun q=>?_),(o1 a o e).2⟩,o2,o3⟩
   ·by_cases q:b=L
    ·subst q;exact ⟨_,hn⟩
    ·obtain ⟨mm,e⟩:=(f b hb).2.2;exact ⟨mm,e.sameBut hs q⟩
   ·have:=(f L (.head _)).2.1;rw [q] at e;rw [this] at e;trivial
   ·exact (o3 a C fs (e'▸e)).2.2 (q▸.head _)
  ·rcases hset i' u h2 with ⟨rfl,rfl⟩ | ⟨q,h2⟩
   ·rw [hi] at h1;cases h1;exact (in_EA y (by simp) vr)
   ·refine el_EA (n2 i' x' u h1 h2) fun z e1 e2=>?_
    exact (in_EA z (by simp [hnames i' x' _ h1 q,e1]) e2)
  ·rcases hset i' u h2 with ⟨rfl,rfl⟩ | ⟨q,h2⟩
   ·rw [hi] at h1;cases h1;rcases h3 with h3 | h3<;>trivial
   ·exact cs i' x' k' u h1 h3 h2
 ·obtain ⟨c,ec⟩:=Option.isSome_iff_exists.mp (V.ce x (List.mem_of_getElem? hi))
  refine el_EEA (ce x c ec) fun o u0 e1 e2=>?_
  refine wpAny_storeName_cell V.kd hko ec (in_EA o (I.zin _ _ e1) e2) fun h' hv hs=>?_
  refine el_EA hv fun o' ho' hd'=>?_
  have hd:∀ b o,b≠c→s.heap.get? b=some o→h'.get? b=some o:=fun b o q e=>(hs.2 b q).trans e
  have zc:Z₀ c=none:=O.cz x c ec
  have sx:SeqExt Z (put Z c o'):=fun a oo ys n e e'=>by
   by_cases q:a=c
   ·subst q;rw [e1] at e;cases e;rw [e2] at e';trivial
   ·rw [put_ne q];exact e
  have cF:c∉(L::Fc):=fun q=>by have:=(I.frs c q).1;rw [e1] at this;trivial
  refine h _ (put Z c o') ⟨fun b oo e=>?_,fun b hb mm e=>?_,go.same.trans (in_AA rfl rfl rfl)⟩ ?_ ⟨(in_EA m' ?_ (fun i' x' u h1 h2=>?_)),fun i' x' k' u h1 h3 h2=>?_,.inl (by rw [hL];exact .head _),fun x' c' e=>?_⟩ sx
  ·by_cases q:b=c
   ·rw [q,zc] at e;trivial
   ·rw [put_ne q];exact go.ext _ _ e
  ·exact (go.frk b hb mm e).sameBut hs (fun q=>cF (q▸.tail _ hb))
  ·obtain ⟨bb,z,f,δ,o1,o2,o3⟩:=I
   have hHc:H c=none:=by
    cases q:H c with
    | none=>rfl
    | some oo=>have:=(o1 c oo q).2.1;rw [e1] at this;trivial
   refine ⟨fun b oo e=>?_,fun b oo e=>?_,fun b hb=>(in_AA ?_ ((f b hb).2.1) ?_),δ,fun a oo e=>(in_AA ((o1 a oo e).1.mono sx (fun x=>hd a x fun q=>?_) (fun C fs e' x=>hd _ x fun q=>?_)) ?_ ((o1 a oo e).2.2)),o2,fun a C fs e=>⟨?_,(o3 a C fs e).2⟩⟩
   ·rw [put_ne (fun q=>by have:=B0 b oo e;rw [q,zc] at this;trivial)];exact bb b oo e
   ·by_cases q:b=c
    ·subst q;rw [put_at] at e;cases e;exact ho'
    ·rw [put_ne q] at e;exact hd _ _ q (z b oo e)
   ·rw [put_ne (neF hb cF)];exact (f b hb).1
   ·obtain ⟨mm,e⟩:=(f b hb).2.2;exact ⟨mm,e.sameBut hs (neF hb cF)⟩
   ·rw [q,hHc] at e;trivial
   ·have:=(o3 a C fs (e'▸e)).1;rw [q,e1] at this;trivial
   ·rw [put_ne (fun q=>by rw [q,hHc] at e;trivial)];exact (o1 a oo e).2.1
   ·rw [put_ne (fun q=>by have:=(o3 a C fs e).1;rw [q,e1] at this;trivial)];exact (o3 a C fs e).1
  ·rw [hL] at n1 ⊢;exact n1.sameBut hs (fun q=>cF (q▸.head _))
  ·rcases hset i' u h2 with ⟨rfl,rfl⟩ | ⟨q,h2⟩
   ·rw [hi] at h1;cases h1
   ·refine el_EA (n2 i' x' u h1 h2) fun z a1 a2=>?_
    exact (in_EA z a1 (VR.mono sx _ _ a2))
  ·rcases hset i' u h2 with ⟨rfl,rfl⟩ | ⟨q,h2⟩
   ·rw [hi] at h1;cases h1;exact (in_EEEAAA c o' y ec put_at hd' (VR.mono sx _ _ vr))
   ·refine el_EEEAAA (cs i' x' k' u h1 h3 h2) fun c' o'' z a1 a2 a3 a4=>?_
    have:c'≠c:=fun w=>hnames i' x' _ h1 q (O.cinj _ _ _ (w▸a1) ec)
    exact (in_EEEAAA c' o'' z a1 (by rw [put_ne this];exact a2) a3 (VR.mono sx _ _ a4))
  ·by_cases q:c'=c
   ·subst q;exact (in_EEA o' _ put_at hd')
   ·refine el_EEA (ce x' c' e) fun o2 u2 a1 a2=>?_;exact (in_EEA o2 u2 (by rw [put_ne q];exact a1) a2)
end
end Mine
namespace Mine
open Builtin Builtin.ObjectAttr
theorem putL_len (name:Str) (h:Int) (key v:Value):∀ es:List DictEntry,(putL name h key v es).length≤es.length+1
 | []=>by exact Nat.le_refl _
 | e::r=>by
  unfold putL
  split
  ·exact Nat.le_succ _
  ·simp only [List.length_cons];have:=putL_len name h key v r;exact Nat.succ_le_succ this
theorem AttR.put {Z:Zone} {k:Nat} {x:Str} {v:V} {y:Value} {h:Int} {t:Tok} (hk:AT[k]?=some x) (vr:VR Z v y):∀ {fs:List (Nat × V)} {es:List DictEntry},AttR Z fs es→AttR Z (setF k v fs) (putL x h (.str x t) y es)
 | [],_,r=>by obtain rfl:_=[]:=r;exact (in_EEEEAAAA _ ([]) x t rfl hk rfl vr rfl)
 | (j,u)::fs,_,⟨e,r,n,t',h1,h2,h3,h4,h5⟩=>by
  subst h1
  unfold setF putL
  by_cases q:j=k
  ·subst q
   rw [hk] at h2
   cases h2
   simp only [show Nat.beq j j=true from Nat.beq_refl j,h3,isStr_eq,if_true]
   exact (in_EEEEAAAA _ r x t' rfl hk rfl vr h5)
  ·have:Nat.beq j k=false:=by cases h':Nat.beq j k with | false=>rfl | true=>exact absurd (Nat.eq_of_beq_eq_true h') q
   have hne:n≠x:=fun z=>q (AT_inj h2 (z▸hk))
   simp only [this,h3,isStr_ne hne,Bool.false_eq_true,if_false]
   exact (in_EEEEAAAA e _ n t' rfl h2 h3 h4 (AttR.put hk vr h5))
theorem AttR.refKey {Z:Zone}:∀ {fs:List (Nat × V)} {es:List DictEntry},AttR Z fs es→es.any (·.refKey)=false
 | [],_,r=>by obtain rfl:_=[]:=r;rfl
 | (j,u)::fs,_,⟨e,r,n,t',h1,h2,h3,h4,h5⟩=>by
  subst h1
  have:e.refKey=false:=by unfold DictEntry.refKey;rw [h3]
  rw [List.any_cons,this,AttR.refKey h5];rfl
theorem setF_keys {C:Addr} {k:Nat} {v:V} (hk:fldOk C k FT=true):∀ {fs:List (Nat × V)},(∀ p∈fs,fldOk C p.1 FT=true)→∀ p∈setF k v fs,fldOk C p.1 FT=true
 | []=>@fun u0 p hp=>by simp only [setF,List.mem_singleton] at hp;subst hp;exact hk
 | (j,u)::fs=>@fun h p hp=>by
  unfold setF at hp
  split at hp
  ·rcases List.mem_cons.mp hp with rfl | hp
   ·exact h (j,u) (.head _)
   ·exact h _ (.tail _ hp)
  ·rcases List.mem_cons.mp hp with rfl | hp
   ·exact h _ (.head _)
   ·exact setF_keys hk (fun q hq=>h q (.tail _ hq)) p hp
section
variable {g:G} {nm:List (Str × NameKind)}
theorem set_exact {A:Around} {s:Shared} {E:Value→Shared→Prop} {x C dx:Addr} {es:List DictEntry} {n:Nat} {name:Str} {v:Value} {R:Unit→Shared→Prop} (X:g.K.In s.heap) (IA:InstAt s.heap x (instObj C dx) C (some (dictOf es n)))
  (hs:findIn g.K (.ref C) "__setattr__"=some (some (.builtin "object.__setattr__"))) (hp:plainOver g.K C=true) (ha:findIn g.K (.ref C) name=some none) (hh:hasDictIn g.K C=true) (hr:es.any (·.refKey)=false) (hz:es.length≤1000)
  (h:∀ f:Obj→Obj,(∀ m,f (dictOf es m)=dictOf (putL name (PyData.keyHash g.w.params name) (.str name (s.toks+1)) v es) (putN name es m))→R () { s with heap:=s.heap.update dx f,toks:=s.toks+2 }) :
  wpAny (model g.prog g.w) A (setAttr (.ref x) name v) R E s:=by
 have ht:takerIn g.K C name=some none:=by unfold takerIn;rw [ha];rfl
 refine el_EA (any_some hh) fun cd hc hd'=>?_
 have D:=IA.dict
 have hx:=IA.at_
 dsimp only [instObj] at D
 refine set_plain X IA hs (osa_open (s:={ s with toks:=s.toks+1 }) X IA hp ht fun b=>?_)
 refine wpAny_bind (wpAny_pure (wpAny_bind (wpAny_bind (wpAny_loadPart hx (wpAny_bind (looks_clsIn X hc _ _ _ _ (fun u0 u0 e=>e) ?_))))))
 rw [hd']
 refine wpAny_pure (a:=some dx) (wpAny_bind (wpAny_pure (wpAny_bind ?_)))
 unfold nsSet
 refine wpAny_bind (wpAny_bind (wpAny_askSetting (wpAny_pure (wpAny_bind (wpAny_mkText (wpAny_bind (wpAny_loadPart D ?_)))))))
 dsimp only [dictOf]
 have c:(!es.toArray.any (·.key.isStr name)&&es.toArray.any (·.refKey))=false:=by
  have:es.toArray.any (·.refKey)=es.any (·.refKey):=by simp
  rw [this,hr,Bool.and_false]
 rw [aRefKeyMayBeTheName_at,c]
 refine wpAny_updatePart D ?_
 have hput:=fun m=>putName_dict name (PyData.keyHash g.w.params name) (.str name (s.toks+1)) v es m
 have D':=Heap.get?_update_self (Obj.putName name (PyData.keyHash g.w.params name) (.str name (s.toks+1)) v) D (by rw [hput];rfl)
 rw [hput] at D'
 have hl:=putL_len name (PyData.keyHash g.w.params name) (.str name (s.toks+1)) v es
 refine wpAny_bind (wpAny_lookBehind D' (pastItsLine_dict (by rw [List.size_toArray,sizeLine_eq];exact ln 0x1041f1b912010000003011b000003e83111b9121101120 rfl hz hl)) ?_)
 exact wpAny_pure (h _ hput)
theorem att_run (G:GlobOk g) {A:Around} {L:Addr} {Fc:List Addr} {env:Env} {m:Loc} {s₀ s:Shared} {Z₀ Z:Zone} {H:Hp} {k:Nat} {x:Str} {u v:V} {y o:Value} {P:Hp→Prop} {R:Unit→Shared→Prop} {E:Value→Shared→Prop}
  (hk:AT[k]?=some x) (w:setAtt k u v H P) (I:Inv g.prog g.w g.B (L::Fc) Z H s.heap) (LR:LocR nm env m (L::Fc) Z s.heap) (go:Go Fc Z₀ s₀ Z s) (ru:VR Z u y) (rv:VR Z v o)
  (h:∀ s1 H1,Go Fc Z₀ s₀ Z s1→Inv g.prog g.w g.B (L::Fc) Z H1 s1.heap→LocR nm env m (L::Fc) Z s1.heap→P H1→R () s1):wpAny (model g.prog g.w) A (setAttr o x y) R E s:=by
 unfold setAtt at w
 refine el_EA (refW_el w) fun a rf1 w=>?_;subst rf1
 ·skip
  simp only [VR] at rv
  subst rv
  obtain ⟨C,fs,ha,hf,hlen,w⟩:=w
  have K1:g.K.In s.heap:=G.kin.keeps fun b o e=>I.zin _ _ (I.base _ _ e)
  refine el_AAA (G.fld C k x hf hk) fun f1 f2 f3 rt3=>?_;obtain ⟨f4,f5⟩:=rt3
  have I0:=I
  obtain ⟨bb,z,fr,δ,o1,o2,o3⟩:=I
  refine el_AA (o1 _ _ ha) fun rt0 iz i6=>?_;obtain ⟨i1,⟨es,n,i2,i3,i4⟩,i5⟩:=rt0
  refine set_exact K1 (IA:=⟨i1,rfl,rfl,i2⟩) f4 f5 f1 f3 i4.refKey i3 fun f hfe=>?_
  have oth:∀ b,b≠δ a→(s.heap.update (δ a) f).get? b=s.heap.get? b:=fun b q=>Heap.get?_update_other _ _ (Ne.symm q)
  have self:=Heap.get?_update_self f i2 (by rw [hfe];rfl)
  rw [hfe] at self
  refine el_AA (o3 a C fs ha) fun d1 d2 d3=>?_
  have zd:∀ b oo,Z b=some oo→b≠δ a:=fun b oo e q=>by rw [q,d1] at e;trivial
  have fd:∀ b,b∈(L::Fc)→b≠δ a:=fun b hb q=>d3 (q▸hb)
  have nsk:∀ b,b∈(L::Fc)→∀ mm,s.heap.Ns b mm→(s.heap.update (δ a) f).Ns b mm:=fun b hb mm ⟨oo,es',ep,e,r⟩=>⟨oo,es',ep,(oth b (fd b hb)).trans e,r⟩
  have hes:AttR Z (setF k u fs) (putL x (PyData.keyHash g.w.params x) (.str x (s.toks+1)) y es):=i4.put hk ru
  have hlen':(putL x (PyData.keyHash g.w.params x) (.str x (s.toks+1)) y es).length≤1000:=by
   have h1:=putL_len x (PyData.keyHash g.w.params x) (.str x (s.toks+1)) y es
   have h2:∀ {fs:List (Nat × V)} {es:List DictEntry},AttR Z fs es→fs.length=es.length:=by
    intro fs
    induction fs with
    | nil=>intro es r;obtain rfl:es=[]:=r;rfl
    | cons p fs ih=>intro es r;obtain ⟨k',v'⟩:=p;obtain ⟨e,r',_,_,rfl,_,_,_,r⟩:=r;simp only [List.length_cons,ih r]
   have:=h2 i4
   exact ln 0x7c1041f1b000003e83210b000000643011b91211212b1101130 rfl hlen h1 this
  have adne:δ a≠a:=fun q=>by have:=i1;rw [← q,i2] at this;cases this
  have put_inst:∀ b C' fs',put H a (.inst C (setF k u fs)) b=some (.inst C' fs')→∃ C0 fs0,H b=some (.inst C0 fs0):=fun b C' fs' e=>by
   by_cases q:b=a
   ·subst q;exact (in_EE _ _ ha)
   ·rw [put_ne q] at e;exact (in_EE _ _ e)
  refine h _ (put H a (.inst C (setF k u fs))) ⟨go.ext,fun b hb mm e=>nsk b (.tail _ hb) mm (go.frk b hb mm e),go.same.trans (in_AA rfl rfl rfl)⟩ ?_ ?_ w
  ·refine ⟨bb,fun b oo e=>(oth b (zd b oo e)).trans (z b oo e),fun b hb=>(in_AA ((fr b hb).1) ?_ ?_),δ,fun b oo e=>?_,fun b b' C1 f1' C2 f2' e e'=>?_,fun b C1 f1' e=>?_⟩
   ·rw [put_ne (fun q=>by have:=(fr b hb).2.1;rw [q,ha] at this;trivial)];exact (fr b hb).2.1
   ·obtain ⟨mm,e⟩:=(fr b hb).2.2;exact ⟨mm,nsk b hb mm e⟩
   ·by_cases q:b=a
    ·subst q
     rw [put_at] at e
     cases e
     exact (in_AA (in_AA ((oth _ (Ne.symm adne)).trans i1) (in_EEAA _ _ self hlen' hes) (setF_keys hf i5)) iz i6)
    ·rw [put_ne q] at e
     have hb':b≠δ a:=fun q'=>by rw [q',d2] at e;trivial
     refine ⟨(o1 b oo e).1.mono (fun u0 u0 u0 u0 e u0=>e) (fun x hx=>(oth b hb').trans hx) (fun C1 f1' e1 x hx=>(oth _ fun q'=>q (o2 b a C1 f1' C fs (e1▸e) ha q')).trans hx),(o1 b oo e).2⟩
   ·refine el_EE (put_inst b _ _ e) fun u0 u0 e1=>?_
    refine el_EE (put_inst b' _ _ e') fun u0 u0 e2=>?_
    exact o2 b b' _ _ _ _ e1 e2
   ·refine el_EE (put_inst b _ _ e) fun u0 u0 e1=>?_
    refine el_AA (o3 b _ _ e1) fun p1 p2 p3=>?_
    exact (in_AA p1 (by rw [put_ne (fun q=>by rw [q,ha] at p2;trivial)];exact p2) p3)
  ·obtain ⟨⟨m',n1,n2⟩,cs,lo,ce⟩:=LR
   refine ⟨(in_EA m' ?_ n2),cs,lo,ce⟩
   rcases lo with lo | ⟨oo,lo⟩
   ·exact nsk _ lo _ n1
   ·refine el_EEEA n1 fun o' es' ep e r=>?_
    exact (in_EEEA o' es' ep ((oth _ (zd _ _ lo)).trans e) r)
end
end Mine
namespace Mine
section
variable {g:G} {nm:List (Str × NameKind)}
theorem sndS_asg {x:Str} {k:NameKind} {i:Nat} {e:E} {pe:PySem.Expr} {p pos:Pos} (hi:nm[i]?=some (x,k)) (hk:k=.local∨k=.cell) (S:Snd g nm pe e) (hs:∀ env,swapsWith pe (some (.Name x p)) pos.line env=pure false) :
  SndS g nm (.Assign [.Name x p] pe pos) (.asg i e):=by
 intro n A L Fc env m Z0 s0 s Z H N R X D V O B0 w go I LR
 refine wpAny_Assign_Name (S.stm D V w I LR go fun y v s1 Z1 H1 go1 I1 L1 u0 vr q=>?_) (hs env)
 exact store_any hi hk V O B0 I1 L1 go1 vr fun s2 Z2 go2 I2 L2 u0=>⟨_,Z2,H1,go2,I2,L2,q⟩
theorem sndS_asgA (G:GlobOk g) {x:Str} {k:Nat} {o e:E} {po pe:PySem.Expr} {p pos:Pos} (hk:AT[k]?=some x) (So:Snd g nm po o) (S:Snd g nm pe e) (hs:∀ env,swapsWith pe (some (.Attribute po x p)) pos.line env=pure false) :
  SndS g nm (.Assign [.Attribute po x p] pe pos) (.asgA o k e):=by
 intro n A L Fc env m Z0 s0 s Z H N R X D V O B0 w go I LR
 refine plainObj_wpAny_Assign_Attribute (S.stm D V w I LR go fun y v s1 Z1 H1 go1 I1 L1 u0 vr q=>?_) (hs env)
 refine So.stm D V q I1 L1 go1 fun y2 v2 s2 Z2 H2 go2 I2 L2 ex vr2 q2=>?_
 exact att_run G hk q2 I2 L2 go2 (VR.mono ex.seq _ _ vr) vr2 fun s3 H3 go3 I3 L3 q3=>⟨m,Z2,H3,go3,I3,L3,q3⟩
theorem sndS_ex {e:E} {pe:PySem.Expr} {pos:Pos} (S:Snd g nm pe e) (hs:∀ env,swapsWith pe none pos.line env=pure false):SndS g nm (.Expr pe pos) (.ex e):=by
 intro n A L Fc env m Z0 s0 s Z H N R X D V O B0 w go I LR
 refine wpAny_Expr_any (S.stm D V w I LR go fun y v s1 Z1 H1 go1 I1 L1 u0 vr q=>⟨m,Z1,H1,go1,I1,L1,q⟩) (by unfold interactive;rw [V.kd];rfl) (hs env)
theorem sndS_ret {e:E} {pe:PySem.Expr} {pos:Pos} (S:Snd g nm pe e):SndS g nm (.Return (some pe) pos) (.ret e):=by
 intro n A L Fc env m Z0 s0 s Z H N R X D V O B0 w go I LR
 exact wpAny_Return_some (S.stm D V w I LR go fun y v s1 Z1 H1 go1 I1 L1 u0 vr q=>⟨v,Z1,H1,go1,I1,vr,q⟩)
theorem sndS_ret0 {pos:Pos}:SndS g nm (.Return none pos) .ret0:=by
 intro n A L Fc env m Z0 s0 s Z H N R X D V O B0 w go I LR
 exact wpAny_Return_none ⟨.none,Z,H,go,I,by rfl,w⟩
theorem sndS_pass {pos:Pos}:SndS g nm (.Pass pos) .pass:=by
 intro n A L Fc env m Z0 s0 s Z H N R X D V O B0 w go I LR
 exact wpAny_Pass ⟨m,Z,H,go,I,LR,w⟩
theorem sndS_dead {ps:Stmt}:SndS g nm ps .dead:=by
 intro n A L Fc env m Z0 s0 s Z H N R X D V O B0 w go I LR
 exact (show False from w).elim
theorem sndSs_nil:SndSs g nm [] []:=by
 intro n A L Fc env m Z0 s0 s Z H N R X D V O B0 w go I LR
 exact wpAny_execs_nil ⟨m,Z,H,go,I,LR,w⟩
theorem sndSs_cons {ps:Stmt} {pss:List Stmt} {t:S} {ts:List S} (S1:SndS g nm ps t) (S2:SndSs g nm pss ts):SndSs g nm (ps::pss) (t::ts):=by
 intro n A L Fc env m Z0 s0 s Z H N R X D V O B0 w go I LR
 refine wpAny_execs_cons (wpAny_mono (S1 n A L Fc env m Z0 s0 s Z H _ R X D V O B0 w go I LR) (fun f s1 q=>?_) fun u0 u0 x=>x)
 cases f with
 | next=>
  obtain ⟨m1,Z1,H1,go1,I1,L1,q⟩:=q
  exact S2 n A L Fc env m1 Z0 s0 s1 Z1 H1 N R X D V O B0 q go1 I1 L1
 | ret y=>exact q
 | _=>exact q.elim
theorem sndS_ifs {c:E} {pc:PySem.Expr} {pt pf:List Stmt} {t f:List S} {pos:Pos} (Sc:SndB g nm pc c) (St:SndSs g nm pt t) (Sf:SndSs g nm pf f):SndS g nm (.If pc pt pf pos) (.ifs c t f):=by
 intro n A L Fc env m Z0 s0 s Z H N R X D V O B0 w go I LR
 have w':wE g n c m (BoolQ fun b H1=>Br b (wSs g n t m N R X H1) (wSs g n f m N R X H1)) X H:=w
 refine wpAny_If (Sc.stm D V w' I LR go fun b s1 Z1 H1 go1 I1 L1 q=>?_)
 cases b with
 | true=>exact St n A L Fc env m Z0 s0 s1 Z1 H1 N R X D V O B0 (q.t rfl) go1 I1 L1
 | false=>exact Sf n A L Fc env m Z0 s0 s1 Z1 H1 N R X D V O B0 (q.f rfl) go1 I1 L1
theorem while_step {prog:Program} {w:World} {A:Around} {s:Shared} {env:Env} {test:PySem.Expr} {body:List Stmt} {R:Result→Shared→Prop}
  (h:wpAny (model prog w) A (isTrue test env (eval test env)) (fun b s₂=>
    if b then wpAny (model prog w) A (execs body env) (fun f s₃=>match f with
      | .next=>codeAny (model prog w) A (.whileLoop test body [] env) R s₃
      | .ret v=>R (.ok (.ret v)) s₃
      | _=>False) (fun u0 u0=>False) s₂
    else R (.ok .next) s₂) (fun u0 u0=>False) s):codeAny (model prog w) A (.whileLoop test body [] env) R s:=by
 refine codeAny_of_tree ?_
 show wpAny _ A ((whileTurn test body [] env).onRaise (fun x=>do noteFrame x env;theTreesLotGoes x)) _ _ s
 refine wpAny_onRaise ?_
 simp only [whileTurn]
 refine wpAny_bind (wpAny_mono h (fun b s₂ h₂=>?_) fun u0 u0 h'=>h'.elim)
 cases b with
 | false=>
  simp only [Bool.false_eq_true,if_false] at h₂ ⊢
  exact wpAny_bind (wpAny_execs_nil (wpAny_pure h₂))
 | true=>
  simp only [if_true] at h₂ ⊢
  refine wpAny_bind (wpAny_mono h₂ (fun f s₃ h₃=>?_) fun u0 u0 h'=>h'.elim)
  cases f with
  | next=>exact wpAny_pure ⟨rfl,h₃⟩
  | ret v=>exact wpAny_pure h₃
  | _=>exact h₃.elim
theorem noX {L:Addr} {Fc:List Addr} {Z0:Zone} {s0:Shared} {e:Value} {s':Shared} (h:ExS g L Fc Z0 s0 (fun u0 u0=>False) e s'):False:=by
 obtain ⟨_,_,_,_,_,_,q⟩:=h;exact q
theorem sndS_whl {c:E} {pc:PySem.Expr} {pb:List Stmt} {b:List S} {pos:Pos} (Sc:SndB g nm pc c) (Sb:SndSs g nm pb b):SndS g nm (.While pc pb [] pos) (.whl c b):=by
 intro n A L Fc env m Z0 s0 s Z H N R X D V O B0 w go I LR
 cases n with
 | zero=>exact w.elim
 | succ n=>
  have D':=D.pred
  refine wpAny_While ?_
  have key:∀ s Z,Go Fc Z0 s0 Z s→Inv g.prog g.w g.B (L::Fc) Z H s.heap→LocR nm env m (L::Fc) Z s.heap →
    codeAny (model g.prog g.w) A (.whileLoop pc pb [] env) (fun r s'=>match r with | .ok f=>OkS g nm env L Fc Z0 s0 N R f s' | .error _=>False) s:=by
   refine w.go (fun m H=>∀ s Z,Go Fc Z0 s0 Z s→Inv g.prog g.w g.B (L::Fc) Z H s.heap→LocR nm env m (L::Fc) Z s.heap →
    codeAny (model g.prog g.w) A (.whileLoop pc pb [] env) (fun r s'=>match r with | .ok f=>OkS g nm env L Fc Z0 s0 N R f s' | .error _=>False) s) ?_
   intro m H w s Z go I LR
   refine while_step (wpAny_mono (Sc.stm (Q:=fun t H1=>Br t (wSs g n b m _ R (fun u0 u0=>False) H1) (N m H1)) (R:=_) D' V w I LR go fun t s1 Z1 H1 go1 I1 L1 q=>?_) (fun u0 u0 x=>x) fun u0 u0 x=>(noX x).elim)
   cases t with
   | false=>exact ⟨m,Z1,H1,go1,I1,L1,q.f rfl⟩
   | true=>
    refine wpAny_mono (Sb n A L Fc env m Z0 s0 s1 Z1 H1 _ R _ D' V O B0 (q.t rfl) go1 I1 L1) (fun f s2 q2=>?_) fun u0 u0 x=>(noX x).elim
    cases f with
    | next=>
     obtain ⟨m2,Z2,H2,go2,I2,L2,q2⟩:=q2
     exact q2 s2 Z2 go2 I2 L2
    | ret y=>exact q2
    | _=>exact q2.elim
  exact codeAny_mono (key s Z go I LR) fun r s' q=>by
   cases r with
   | ok f=>exact q
   | error e=>exact q.elim
end
theorem WhlW.by {F:(Loc→Hp→Prop)→Loc→Hp→Prop} (J:Nat→Loc→Hp→Prop) (step:∀ k m H,J k m H→∀ P:Loc→Hp→Prop,(∀ k' m' H',k' < k→J k' m' H'→P m' H')→F P m H) {k:Nat} {m:Loc} {H:Hp} (h:J k m H):WhlW F m H:=by
 refine ⟨fun P hP=>?_⟩
 induction k using Nat.strongRecOn generalizing m H with
 | ind k ih=>exact hP m H (step k m H h P fun k' m' H' hk hj=>ih k' hk hj)
end Mine
namespace Mine
section
variable {g:G} {nm:List (Str × NameKind)}
theorem Inv.tail {L:Addr} {Fs:List Addr} {Z:Zone} {H:Hp} {h:Heap} (I:Inv g.prog g.w g.B (L::Fs) Z H h):Inv g.prog g.w g.B Fs Z H h:=by
 obtain ⟨b,z,f,δ,o1,o2,o3⟩:=I
 exact ⟨b,z,fun x hx=>f x (.tail _ hx),δ,o1,o2,fun a C fs e=>⟨(o3 a C fs e).1,(o3 a C fs e).2.1,fun q=>(o3 a C fs e).2.2 (.tail _ q)⟩⟩
theorem Inv.enter {L:Addr} {Fs:List Addr} {Z:Zone} {H:Hp} {h h':Heap} {m:Str→Option Value} (I:Inv g.prog g.w g.B Fs Z H h) (k:Keeps h h') (hL:h.get? L=none) (hn:h'.Ns L m):Inv g.prog g.w g.B (L::Fs) Z H h':=by
 refine el_AA (I.hNone hL) fun n1 n2 n3=>?_
 have I':=I.grow k
 obtain ⟨b,z,f,-⟩:=I'
 obtain ⟨-,-,-,δ,o1,o2,o3⟩:=I
 refine ⟨b,z,fun x hx=>?_,δ,fun a o e=>⟨(o1 a o e).1.mono (fun u0 u0 u0 u0 e u0=>e) (fun x=>k _ x) (fun u0 u0 u0 x=>k _ x),(o1 a o e).2⟩,o2,fun a C fs e=>(in_AA ((o3 a C fs e).1) ((o3 a C fs e).2.1) (fun q=>?_))⟩
 ·rcases List.mem_cons.mp hx with rfl | hx
  ·exact (in_AAE n2 n1 m hn)
  ·exact f x hx
 ·rcases List.mem_cons.mp q with q | q
  ·refine el_AA ((o1 a _ e).1) fun u0 rt1 u0=>?_;obtain ⟨es,n,e2,-⟩:=rt1;rw [q,hL] at e2;trivial
  ·exact (o3 a C fs e).2.2 q
theorem binds_look:∀ {ps:List Str} {ys:List Value} {i:Nat} {x:Str} {y:Value},ps.Nodup→ps[i]?=some x→ys[i]?=some y→(ps.zip ys).lookup x=some y
 | [],_,_,_,_,_,h,_=>by trivial
 | p::ps,[],_,_,_,_,_,h=>by assumption
 | p::ps,z::ys,0,x,y,_,h1,h2=>by
  simp only [List.getElem?_cons_zero,Option.some.injEq] at h1 h2
  subst h1 h2
  simp [List.lookup]
 | p::ps,z::ys,i+1,x,y,nd,h1,h2=>by
  simp only [List.getElem?_cons_succ] at h1 h2
  have nd':=List.nodup_cons.mp nd
  have hne:(x==p)=false:=by
   cases q:x==p with
   | false=>rfl
   | true=>exact absurd (beq_iff_eq.mp q▸List.mem_of_getElem? h1) nd'.1
  simp only [List.zip_cons_cons,List.lookup_cons,hne]
  exact binds_look nd'.2 h1 h2
theorem lookup_rev {x:Str} {y:Value} {l:List (Str × Value)} (nd:(l.map (·.1)).Nodup) (h:l.lookup x=some y):l.reverse.lookup x=some y:=by
 have hm:(x,y)∈l:=by
  induction l with
  | nil=>trivial
  | cons p r ih=>
   obtain ⟨z,u⟩:=p
   rw [List.lookup_cons] at h
   by_cases q:(x==z)=true
   ·rw [q] at h;cases h;rw [beq_iff_eq.mp q];exact .head _
   ·rw [Bool.not_eq_true] at q
    rw [q] at h
    exact .tail _ (ih (List.nodup_cons.mp nd).2 h)
 exact lookup_mem (by rw [List.map_reverse];exact (List.reverse_perm _).nodup_iff.mpr nd) (List.mem_reverse.mpr hm)
inductive FnAt (K:Frag) (f:Addr) (params:Arguments) (body:List Stmt) (scope:Scope) (pn:List Str) (dv:List V):Prop
 | mk (oc:Value) (od:Option Addr) (osl:Array (Option Value)) (name qual:Str) (dV kV doc pm:Value) (an:Option Addr) (cdv ct:Value) (hl:K.lookup f=some ⟨oc,od,.func (fnOf name qual params body scope dV kV doc pm an cdv ct),osl⟩) (hc:codeIn K cdv qual=true)
  (hb:∀ (s:Shared) (ys:List Value),K.In s.heap→ys.length+dv.length=pn.length→∃ ds,(∀ Z,VRs Z dv ds)∧BindsTo s (fnOf name qual params body scope dV kV doc pm an cdv ct) ⟨ys,[]⟩ (pn.zip (ys++ds))):FnAt K f params body scope pn dv
structure DefK (g:G) (f:Addr) (params:Arguments) (body:List Stmt) (scope:Scope) (pn:List Str) (dv:List V):Prop where
 lk:FnAt g.K f params body scope pn dv
 kd:scope.kind=.function
 co:scope.isCoroutine=false
 ge:scope.isGenerator=false
 nd:(scope.names.map (·.1)).Nodup
 db:∀ p∈scope.names,(p.1==("__debug__":Str))=false∧(p.1==("__classdict__":Str))=false
 ps:scope.names.take pn.length=pn.map fun x=>(x,NameKind.local)
 nc:∀ p∈scope.names,p.2≠.cell
noncomputable def startLoc (vs:List V) (k:Nat):Loc:=vs.map some++List.replicate (k - vs.length) none
end
end Mine
namespace Mine
section
variable {g:G} {nm:List (Str × NameKind)}
inductive TrT (nm:List (Str × NameKind)):List PySem.Expr→List Nat→Prop where
 | nil:TrT nm [] []
 | cons {i:Nat} {x:Str} {k:NameKind} {p:Pos} {es:List PySem.Expr} {is:List Nat}:nm[i]?=some (x,k)→(k=.local∨k=.cell)→TrT nm es is→TrT nm (.Name x p::es) (i::is)
theorem TrT.length {es:List PySem.Expr} {is:List Nat} {env:Env} (T:TrT nm es is):(assignEach es env).length=is.length:=by
 induction T with
 | nil=>rfl
 | cons _ _ _ ih=>show (_::_:List _).length=_;exact congrArg _ ih
theorem TrT.star {es:List PySem.Expr} {is:List Nat} {env:Env} (T:TrT nm es is):(assignEach es env).findIdx? (·.1)=none:=by
 induction T with
 | nil=>rfl
 | cons _ _ _ ih=>show List.findIdx? _ ((false,_)::_)=none;rw [List.findIdx?_cons,ih];rfl
theorem setEach_length:∀ {is:List Nat} {vs:List V} {m m':Loc},setEach is vs m=some m'→is.length=vs.length
 | [],[],_,_,_=>rfl
 | [],_::_,_,_,h=>by simp [setEach] at h
 | _::_,[],_,_,h=>by simp [setEach] at h
 | _::is,_::vs,_,_,h=>by simp only [setEach] at h;simp only [List.length_cons,setEach_length h]
inductive TrF (nm:List (Str × NameKind)) (env:Env):List (Value→Sem Unit)→List Nat→Prop where
 | nil:TrF nm env [] []
 | cons {i:Nat} {x:Str} {k:NameKind} {f:Value→Sem Unit} {fs:List (Value→Sem Unit)} {is:List Nat}:nm[i]?=some (x,k)→(k=.local∨k=.cell) →
   (∀ {M:Model} {A:Around} {E:Value→Shared→Prop} {s:Shared} {y:Value} {R:Unit→Shared→Prop},wpAny M A (storeName env x y) R E s→wpAny M A (f y) R E s)→TrF nm env fs is→TrF nm env (f::fs) (i::is)
theorem TrT.toF {es:List PySem.Expr} {is:List Nat} {env:Env} (T:TrT nm es is):TrF nm env ((assignEach es env).map (·.2)) is:=by
 induction T with
 | nil=>exact .nil
 | @cons i x k p es is hi hk T ih=>exact .cons (f:=assign (.Name x p) env) (fs:=(assignEach es env).map (·.2)) hi hk (fun h=>wpAny_assign_Name h) ih
theorem stores_any {env:Env} {fs:List (Value→Sem Unit)} {is:List Nat} (T:TrF nm env fs is) {A:Around} {L:Addr} {Fc:List Addr} {s₀:Shared} {Z₀:Zone} {H:Hp} {R:Unit→Shared→Prop} {E:Value→Shared→Prop} (V0:EnvOk env nm) (O:FnOk env L Fc Z₀)
  (B0:∀ b o,g.B.get? b=some o→Z₀ b=some o):∀ {vs:List V} {ys:List Value} {m m':Loc} {s:Shared} {Z:Zone},setEach is vs m=some m'→VRs Z vs ys →
  Inv g.prog g.w g.B (L::Fc) Z H s.heap→LocR nm env m (L::Fc) Z s.heap→Go Fc Z₀ s₀ Z s →
  (∀ s1 Z1,Go Fc Z₀ s₀ Z1 s1→Inv g.prog g.w g.B (L::Fc) Z1 H s1.heap→LocR nm env m' (L::Fc) Z1 s1.heap→SeqExt Z Z1→R () s1) →
  wpAny (model g.prog g.w) A (assignInOrder fs ys) R E s:=by
 induction T with
 | nil=>
  intro vs ys m m' s Z e r I LR go h
  cases vs with
  | nil=>
   simp only [setEach,Option.some.injEq] at e
   subst e
   exact assignInOrder_nil (h s Z go I LR fun u0 u0 u0 u0 e u0=>e)
  | cons _ _=>trivial
 | @cons i x k f fs is hi hk hf T ih=>
  intro vs ys m m' s Z e r I LR go h
  cases vs with
  | nil=>trivial
  | cons v vs=>
   simp only [setEach] at e
   simp only [VRs] at r
   refine el_EEAA r fun y ys rf2 r1 r2=>?_;subst rf2
   refine assignInOrder_cons (hf (store_any hi hk V0 O B0 I LR go r1 fun s1 Z1 go1 I1 L1 sx=>?_))
   exact ih e (VRs.mono sx _ _ r2) I1 L1 go1 fun s2 Z2 go2 I2 L2 sx2=>h s2 Z2 go2 I2 L2 fun a o ys n e1 e2=>sx2 a o ys n (sx a o ys n e1 e2) e2
theorem extBut_keeps {h h':Heap} (x:Heap.ExtBut h.objs.size h h'):Keeps h h':=fun b o e=>x b o (Nat.ne_of_lt (Heap.lt_size e)) e
theorem take_tuple {es:List PySem.Expr} {is:List Nat} (T:TrT nm es is) {x1:Nat} {pos:Pos} {A:Around} {L:Addr} {Fc:List Addr} {env:Env} {m:Loc} {s₀ s:Shared} {Z₀ Z:Zone} {H:Hp} {v:V} {y:Value} {N:Loc→Prop} {R:Unit→Shared→Prop} {E:Value→Shared→Prop}
  (hh:A.handled=none) (V:EnvOk env nm) (O:FnOk env L Fc Z₀) (B0:∀ b o,g.B.get? b=some o→Z₀ b=some o) (w:takeIt is false v m N)
  (I:Inv g.prog g.w g.B (L::Fc) Z H s.heap) (LR:LocR nm env m (L::Fc) Z s.heap) (go:Go Fc Z₀ s₀ Z s) (vr:VR Z v y)
  (h:∀ m' s1 Z1,N m'→Go Fc Z₀ s₀ Z1 s1→Inv g.prog g.w g.B (L::Fc) Z1 H s1.heap→LocR nm env m' (L::Fc) Z1 s1.heap→SeqExt Z Z1→R () s1) :
  wpAny (model g.prog g.w) A (assign (.Tuple es x1 pos) env y) R E s:=by
 unfold takeIt at w
 split at w
 ·trivial
 ·rename_i vs
  split at w
  ·rename_i m' hs
   simp only [VR] at vr
   refine el_EEEAAA vr fun a c ys rf3 e1 e2 e3=>?_;subst rf3
   have hlen:=setEach_length hs
   have hl2:=e3.length
   refine assign_Tuple_tuple (items:=ys) hh (in_EAAE _ (I.zin _ _ e1) rfl _ rfl) (by rw [T.length,hlen,hl2];simp) T.star fun h' he=>?_
   have k:=extBut_keeps he
   have go1:Go Fc Z s Z { s with heap:=h' }:=⟨.refl _,.of_keeps k,(in_AA rfl rfl rfl)⟩
   have go1':Go (L::Fc) Z s Z { s with heap:=h' }:=⟨.refl _,.of_keeps k,(in_AA rfl rfl rfl)⟩
   exact stores_any T.toF V O B0 hs e3 (I.grow k) (LR.go go1' (I.grow k) I.zin) (go.trans go1) fun s1 Z1 go2 I2 L2 sx=>h m' s1 Z1 w go2 I2 L2 sx
  ·exact w.elim
 ·exact w.elim
theorem sndS_asgT {es:List PySem.Expr} {is:List Nat} (T:TrT nm es is) {e:E} {pe:PySem.Expr} {x1:Nat} {p pos:Pos} (S:Snd g nm pe e) (hs:∀ env,swapsWithSole [.Tuple es x1 p] pe pos.line env=pure false) (hw:∀ env,swappedStores [.Tuple es x1 p] pe env=pure none) :
  SndS g nm (.Assign [.Tuple es x1 p] pe pos) (.asgT is e):=by
 intro n A L Fc env m Z0 s0 s Z H N R X D V O B0 w go I LR
 refine Assign_Tuple (S.stm D V w I LR go fun y v s1 Z1 H1 go1 I1 L1 u0 vr q=>?_) (hs env) (hw env)
 exact take_tuple T D.handled V O B0 q I1 L1 go1 vr fun m' s2 Z2 q2 go2 I2 L2 u0=>⟨m',Z2,H1,go2,I2,L2,q2⟩
theorem kind_of {env:Env} (V:EnvOk env nm) {i:Nat} {x:Str} {k:NameKind} (hi:nm[i]?=some (x,k)):env.kindOf x=some k:=by
 show env.scope.names.lookup x=_;rw [V.sc];exact lookup_get V.nd hi
theorem noStar {es:List PySem.Expr} (h:∀ e∈es,∀ t p,e≠.Starred t p) {f:PySem.Expr→Bool} (hf:∀ e,(∀ t p,e≠.Starred t p)→f e=false):¬ es.any f=true:=by
 intro q
 refine el_EA (List.any_eq_true.mp q) fun e he q=>?_
 rw [hf e (h e he)] at q
 exact of_decide_eq_true q
theorem swap_if {env:Env} {x:Str} {p:Pos} {l:Nat} (k1:env.kindOf x=some .local) (hl:p.line=l) {α:Type} (a b:α):(if (env.kindOf x==some .local&&p.line==l)=true then a else b)=a:=
 if_pos (by rw [k1,hl];exact decide_eq_true rfl)
noncomputable def swF (env:Env) (l:Nat):PySem.Expr→Option Str
 | .Name id pos=>if env.kindOf id==some .local&&pos.line==l then some id else none
 | _=>none
theorem swp {env:Env} {ts vs:List PySem.Expr} {k k2:Nat} {tp vp:Pos} {names:List Str} (kb:env.blockKind=.function) (c1:(!(ts.length==2||ts.length==3)||vs.length != ts.length)=false)
  (hs:∀ e∈vs,∀ t p,e≠.Starred t p) (h1:vs.all (foldedForSure 8)=false) (h2:vs.all (constantsAlone 8)=false)
  (hn:ts.filterMap (swF env ((ts.head?.map (·.pos.line)).getD 0))=names)
  (c3:(names.length != ts.length||names.eraseDups.length != names.length)=false):swappedStores [.Tuple ts k tp] (.Tuple vs k2 vp) env=pure (some names):=by
 subst hn
 refine (if_neg (by rw [kb,c1];exact Bool.false_ne_true)).trans ((if_neg (noStar hs fun e he=>?_)).trans ((if_neg (fun q=>Bool.false_ne_true (c3.symm.trans q))).trans ((if_neg (fun q=>Bool.false_ne_true (h1.symm.trans q))).trans (if_neg (fun q=>Bool.false_ne_true (h2.symm.trans q))))))
 cases e<;>first | rfl | exact absurd rfl (he _ _)
theorem loop_step {x:Str} {r s:List Str} (h:(s.any fun b=>x==b)=false):List.eraseDupsBy.loop (fun (a b:Str)=>a==b) (x::r) s=List.eraseDupsBy.loop (fun (a b:Str)=>a==b) r (x::s):=by
 show (match s.any fun b=>x==b with | true=>_ | false=>_)=_
 rw [h]
theorem swapped2 {env:Env} (V:EnvOk env nm) {i j:Nat} {x y:Str} {p q tp vp:Pos} {e1 e2:PySem.Expr} {t1 t2:Nat} (hi:nm[i]?=some (x,.local)) (hj:nm[j]?=some (y,.local)) (hl:q.line=p.line) (hn:(y==x)=false)
  (hs:∀ e∈[e1,e2],∀ t p,e≠.Starred t p) (h1:[e1,e2].all (foldedForSure 8)=false) (h2:[e1,e2].all (constantsAlone 8)=false) :
  swappedStores [.Tuple [.Name x p,.Name y q] t1 tp] (.Tuple [e1,e2] t2 vp) env=pure (some [x,y]):=by
 refine swp (by unfold Env.blockKind;rw [V.kd];rfl) rfl hs h1 h2 ((List.filterMap_cons_some (f:=swF env p.line) (a:=.Name x p) (b:=x) (swap_if (kind_of V hi) rfl _ _)).trans (congrArg (x::·) ((List.filterMap_cons_some (f:=swF env p.line) (a:=.Name y q) (b:=y) (swap_if (kind_of V hj) hl _ _)).trans rfl))) ?_
 have e:[x,y].eraseDups=[x,y]:=(loop_step (x:=x) (r:=[y]) (s:=[]) rfl).trans ((loop_step (x:=y) (r:=[]) (s:=[x]) (by show ((y==x)||false)=false;rw [hn];rfl)).trans rfl)
 rw [e];rfl
theorem swapped3 {env:Env} (V:EnvOk env nm) {i j l:Nat} {x y z:Str} {p q r tp vp:Pos} {e1 e2 e3:PySem.Expr} {t1 t2:Nat} (hi:nm[i]?=some (x,.local)) (hj:nm[j]?=some (y,.local)) (hl':nm[l]?=some (z,.local)) (hl:q.line=p.line) (hl3:r.line=p.line)
  (hn:(y==x)=false) (hn2:(z==x)=false) (hn3:(z==y)=false)
  (hs:∀ e∈[e1,e2,e3],∀ t p,e≠.Starred t p) (h1:[e1,e2,e3].all (foldedForSure 8)=false) (h2:[e1,e2,e3].all (constantsAlone 8)=false) :
  swappedStores [.Tuple [.Name x p,.Name y q,.Name z r] t1 tp] (.Tuple [e1,e2,e3] t2 vp) env=pure (some [x,y,z]):=by
 refine swp (by unfold Env.blockKind;rw [V.kd];rfl) rfl hs h1 h2 ((List.filterMap_cons_some (f:=swF env p.line) (a:=.Name x p) (b:=x) (swap_if (kind_of V hi) rfl _ _)).trans (congrArg (x::·) ((List.filterMap_cons_some (f:=swF env p.line) (a:=.Name y q) (b:=y) (swap_if (kind_of V hj) hl _ _)).trans (congrArg (y::·) ((List.filterMap_cons_some (f:=swF env p.line) (a:=.Name z r) (b:=z) (swap_if (kind_of V hl') hl3 _ _)).trans rfl))))) ?_
 have e:[x,y,z].eraseDups=[x,y,z]:=(loop_step (x:=x) (r:=[y,z]) (s:=[]) rfl).trans ((loop_step (x:=y) (r:=[z]) (s:=[x]) (by show ((y==x)||false)=false;rw [hn];rfl)).trans ((loop_step (x:=z) (r:=[]) (s:=[y,x]) (by show ((z==y)||((z==x)||false))=false;rw [hn2,hn3];rfl)).trans rfl))
 rw [e];rfl
set_option tactic.hygienic true in
theorem asgX_run {pes:List PySem.Expr} {es:Es} {is:List Nat} {names:List Str} {n:Nat} {A:Around} {L:Addr} {Fc:List Addr} {env:Env} {m:Loc} {Z0:Zone} {s0 s:Shared} {Z:Zone} {H:Hp} {N:QN} {R:QV} {X:QX} {k k2:Nat} {tp vp pos:Pos} {ts:List PySem.Expr}
  (Ss:SndEs g nm pes es) (T:TrF nm env (names.reverse.map fun n=>bindName env n) is.reverse) (hlen:names.length=is.length) (hrev:∀ vs m',setEach is vs m=some m'→setEach is.reverse vs.reverse m=some m') (sz:is.length≤3)
  (D:Gd A (L::Fc) n) (V:EnvOk env nm) (O:FnOk env L Fc Z0) (B0:∀ b o,g.B.get? b=some o→Z0 b=some o)
  (w:wS g n (.asgX is es) m N R X H) (go:Go Fc Z0 s0 Z s) (I:Inv g.prog g.w g.B (L::Fc) Z H s.heap) (LR:LocR nm env m (L::Fc) Z s.heap)
  (hs:swapsWithSole [.Tuple ts k tp] (.Tuple pes k2 vp) pos.line env=pure false) (hw:swappedStores [.Tuple ts k tp] (.Tuple pes k2 vp) env=pure (some names)) :
  wpAny (model g.prog g.w) A (exec (.Assign [.Tuple ts k tp] (.Tuple pes k2 vp) pos) env) (OkS g nm env L Fc Z0 s0 N R) (ExS g L Fc Z0 s0 X) s:=by
 refine Assign_Tuple_swapped (names:=names) (Tuple_ (Ss.stm D V w I LR go fun ys vs s1 Z1 H1 go1 I1 L1 u0 vr q=>?_)) hs hw
 split at q
 ·rename_i m' he
  have hl:=setEach_length he
  have hy:ys.length=is.length:=by rw [hl,vr.length]
  refine wpAny_newObj_type ?_ (by show ys.toArray.size≤sizeLine;rw [List.size_toArray,sizeLine_eq];exact ln 0x21041f1b010000003011b32112b1101120 rfl sz hy)
  have hn:names.length=ys.toArray.size:=by rw [List.size_toArray,hlen,hy]
  rw [hn]
  refine unpackItems_tuple (items:=ys.toArray) D.handled (in_EAAE _ (Heap.get?_push_size _ rfl) rfl _ rfl) fun h' he'=>?_
  have kk:Keeps s1.heap h':=(keeps_push _ _).trans (extBut_keeps he')
  have go2:Go (L::Fc) Z1 s1 Z1 { s1 with heap:=h' }:=⟨.refl _,.of_keeps kk,(in_AA rfl rfl rfl)⟩
  exact stores_any (s:={ s1 with heap:=h' }) T V O B0 (hrev _ _ he) (VRs.reverse vr) (I1.grow kk) (L1.go go2 (I1.grow kk) I1.zin) (go1.trans go2.tail) fun s3 Z3 go3 I3 L3 u0=>⟨m',Z3,H1,go3,I3,L3,q⟩
 ·exact q.elim
theorem nm_inj {i j:Nat} {x y:Str} {k k':NameKind} (hi:nm[i]?=some (x,k)) (hj:nm[j]?=some (y,k')) (hn:(y==x)=false):i≠j:=fun q=>by
 subst q;rw [hi] at hj;cases hj;simp at hn
theorem sndS_asgX2 {i j:Nat} {x y:Str} {p q tp vp pos:Pos} {e1 e2:PySem.Expr} {es:Es} {t1 t2:Nat} (hi:nm[i]?=some (x,.local)) (hj:nm[j]?=some (y,.local)) (Ss:SndEs g nm [e1,e2] es) (hl:q.line=p.line) (hn:(y==x)=false)
  (hs:∀ e∈[e1,e2],∀ t p,e≠.Starred t p) (h1:[e1,e2].all (foldedForSure 8)=false) (h2:[e1,e2].all (constantsAlone 8)=false) (hw:∀ env,swapsWithSole [.Tuple [.Name x p,.Name y q] t1 tp] (.Tuple [e1,e2] t2 vp) pos.line env=pure false) :
  SndS g nm (.Assign [.Tuple [.Name x p,.Name y q] t1 tp] (.Tuple [e1,e2] t2 vp) pos) (.asgX [i,j] es):=by
 intro n A L Fc env m Z0 s0 s Z H N R X D V O B0 w go I LR
 refine asgX_run (names:=[x,y]) Ss (.cons hj (.inl rfl) bindName_ (.cons hi (.inl rfl) bindName_ .nil)) rfl (fun vs m' e=>?_) (by show (_:Nat)≤3;exact Nat.le_succ _) D V O B0 w go I LR (hw env) (swapped2 V hi hj hl hn hs h1 h2)
 match vs,e with
 | [v,u],e=>simp only [setEach,Option.some.injEq] at e;subst e;simp only [List.reverse_cons,List.reverse_nil,List.nil_append,List.cons_append,setEach];rw [List.set_comm _ _ (nm_inj hi hj hn)]
 | [],e=>assumption
 | [_],e=>assumption
 | _::_::_::_,e=>trivial
theorem sndS_asgX3 {i j l:Nat} {x y z:Str} {p q r tp vp pos:Pos} {e1 e2 e3:PySem.Expr} {es:Es} {t1 t2:Nat} (hi:nm[i]?=some (x,.local)) (hj:nm[j]?=some (y,.local)) (hl':nm[l]?=some (z,.local)) (Ss:SndEs g nm [e1,e2,e3] es) (hl:q.line=p.line) (hl3:r.line=p.line) (hn:(y==x)=false) (hn2:(z==x)=false) (hn3:(z==y)=false)
  (hs:∀ e∈[e1,e2,e3],∀ t p,e≠.Starred t p) (h1:[e1,e2,e3].all (foldedForSure 8)=false) (h2:[e1,e2,e3].all (constantsAlone 8)=false) (hw:∀ env,swapsWithSole [.Tuple [.Name x p,.Name y q,.Name z r] t1 tp] (.Tuple [e1,e2,e3] t2 vp) pos.line env=pure false) :
  SndS g nm (.Assign [.Tuple [.Name x p,.Name y q,.Name z r] t1 tp] (.Tuple [e1,e2,e3] t2 vp) pos) (.asgX [i,j,l] es):=by
 intro n A L Fc env m Z0 s0 s Z H N R X D V O B0 w go I LR
 refine asgX_run (names:=[x,y,z]) Ss (.cons hl' (.inl rfl) bindName_ (.cons hj (.inl rfl) bindName_ (.cons hi (.inl rfl) bindName_ .nil))) rfl (fun vs m' e=>?_) (by show (_:Nat)≤3;exact Nat.le_refl _) D V O B0 w go I LR (hw env) (swapped3 V hi hj hl' hl hl3 hn hn2 hn3 hs h1 h2)
 match vs,e with
 | [v,u,t],e=>
  simp only [setEach,Option.some.injEq] at e
  subst e
  simp only [List.reverse_cons,List.reverse_nil,List.nil_append,List.cons_append,setEach]
  rw [List.set_comm (some u) (some v) (nm_inj hi hj hn).symm,List.set_comm (some t) (some v) (nm_inj hi hl' hn2).symm,List.set_comm (some t) (some u) (nm_inj hj hl' hn3).symm]
 | [],e=>assumption
 | [_],e=>assumption
 | [_,_],e=>assumption
 | _::_::_::_::_,e=>trivial
end
end Mine
namespace Mine
theorem wpN {M:Model} {A:Around} {E:Value→Shared→Prop} {s:Shared} {α:Type} {c:Prop} {i:Decidable c} {a b:Sem α} {Q:α→Shared→Prop} (h:¬ c) (w:wpAny M A b Q E s):wpAny M A (@ite _ c i a b) Q E s:=by rw [if_neg h];exact w
theorem wpP {M:Model} {A:Around} {E:Value→Shared→Prop} {s:Shared} {α:Type} {c:Prop} {i:Decidable c} {a b:Sem α} {Q:α→Shared→Prop} (h:c) (w:wpAny M A a Q E s):wpAny M A (@ite _ c i a b) Q E s:=by rw [if_pos h];exact w
theorem wpEq {M:Model} {A:Around} {E:Value→Shared→Prop} {s:Shared} {α:Type} {t t':Sem α} {Q:α→Shared→Prop} (h:t=t') (w:wpAny M A t' Q E s):wpAny M A t Q E s:=h▸w
section
variable {prog:Program} {w:World} {A:Around} {E:Value→Shared→Prop} {s:Shared}
theorem cut_le {a n M:Nat} (h:a≤M):min a n+(n - M)≤n:=
 (Nat.le_total M n).elim (fun q=>Nat.le_trans (Nat.add_le_add_right (Nat.le_trans (Nat.min_le_left _ _) h) _) (Nat.le_of_eq (Nat.add_sub_cancel' q))) fun q=>by rw [Nat.sub_eq_zero_of_le q];exact Nat.min_le_right _ _
theorem max_nat (a b:Nat):(max (a:Int) (b:Int)).toNat=max a b:=by
 rcases Nat.le_total a b with h | h
 ·rw [Int.max_eq_right (Int.ofNat_le.mpr h),Nat.max_eq_right h];rfl
 ·rw [Int.max_eq_left (Int.ofNat_le.mpr h),Nat.max_eq_left h];rfl
theorem setItem_slice {l sl r:Addr} {items new:Array Value} {n n':Nat} {vl vu:Value} {lo hi:Option Int} {Q:Unit→Shared→Prop} (hl:s.heap.get? l=some (PySem.W.listOf items n)) (hr:s.heap.get? r=some (PySem.W.listOf new n'))
  (hs:s.heap.IsSliceOf sl vl vu .none) (pl:IsPart vl lo) (pu:IsPart vu hi) (hne:r≠l) (hsz:items.size+new.size≤sizeLine)
  (h:Q () { s with heap:=s.heap.update l (Obj.mapSeq fun xs=>xs.extract 0 (kms_lo lo items.size)++new++xs.extract (max (kms_lo lo items.size) (kms_hi hi items.size)) xs.size) }) :
  wpAny (model prog w) A (setItem (.ref l) (.ref sl) (.ref r)) Q E s:=by
 refine el_EAA (id hs) fun os hos hcs hds=>?_
 have hTs:s.TypeIs (.ref sl) "slice":=(in_EA os hos hcs)
 have hTl:s.TypeIs (.ref l) "list":=(in_EA _ hl rfl)
 have hTr:s.TypeIs (.ref r) "list":=(in_EA _ hr rfl)
 unfold setItem
 try with_reducible refine wpAny_holding ?_
 first | refine wpAny_bind (wpAny_pure ?_) | skip
 refine wpAny_bind (wpAny_sequenceKey hTl (by decide) ?_)
 refine wpAny_bind (wpAny_callSpecial?_slot (name:=Str.ofString "__setitem__") hTl slot_list_setitem
  (wpAny_call_entry slot_list_setitem hTl entry_list_setitem ?_ (args_list_setitem _ _ _)))
 show wpAny _ _ (Builtin.List.listSubscript? (.ref sl) >>= _) _ _ s
 refine wpAny_bind ?_
 ·unfold Builtin.List.listSubscript?
  refine wpAny_bind (wpAny_specialOf hTs slice_no_index ?_)
  refine wpAny_pure ?_
  refine wpAny_bind (m:=typeOf (.ref sl)) (wpAny_typeOf hTs ?_)
  refine wpN (by decide) ?_
  refine wpAny_bind (wpEq (listSliceParts_eq _) ?_)
  have hstep:¬ ((rawPart none==rawInt 0)=true):=Bool.false_ne_true
  refine wpAny_bind (wpAny_field hos hds (x:=.none) rfl (wpAny_bind (wpAny_listPart .none (wpN hstep ?_))))
  refine wpAny_bind (wpAny_field hos hds (x:=vl) rfl (wpAny_bind (wpAny_listPart pl ?_)))
  refine wpAny_bind (wpAny_field hos hds (x:=vu) rfl (wpAny_bind (wpAny_listPart pu (wpAny_pure ?_))))
  have hns:Builtin.List.listSameRef (.ref l) (.ref r)=false:=by
   show (l==r)=false
   exact beq_eq_false_iff_ne.mpr (Ne.symm hne)
  refine wpN (ne_true_of_eq_false hns) ?_
  refine wpAny_bind (m:=Builtin.List.listAllItems (.ref r) _) ?_
  ·unfold Builtin.List.listAllItems
   refine wpAny_bind (wpAny_typeOf hTr ?_)
   refine wpP (by decide) ?_
   refine wpAny_bind (wpAny_seqItems hr rfl (wpAny_pure ?_))
   refine wpAny_bind (wpAny_bind (wpAny_seqItems hl rfl (wpAny_pure ?_)))
   refine wpAny_bind (wpAny_of_eq ((sliceIndices_raw lo hi none items.size nofun).trans (congrArg Sem.pure (kms_bounds lo hi items.size))) ?_)
   refine wpP (by decide) ?_
   refine wpAny_bind (wpAny_rule ?_)
   refine wpN (fun h=>absurd hsz (Nat.not_le.mpr (of_decide_eq_true h))) ?_
   have e2:=max_nat (kms_lo lo items.size) (kms_hi hi items.size)
   refine wpAny_bind (listUpdate_at hl rfl ?_ (Nat.le_trans (Nat.le_add_right _ _) hsz) ?_)
   ·refine wpAny_bind (wpAny_letGo ?_)
    rw [← e2] at h
    exact wpAny_pure (in_EA .none rfl (wpAny_pure h))
   ·rw [e2,Array.size_append,Array.size_append,Array.size_extract,Array.size_extract,Nat.min_self,Nat.sub_zero,Nat.add_right_comm]
    exact Nat.le_trans (Nat.add_le_add_right (cut_le (Nat.le_max_left _ _)) _) (Nat.le_succ_of_le hsz)
end
theorem stored_dput {Z:Zone} {es:List (Int × V)} {kvs:List (Int × Value)} {k:Int} {u:V} {y:Value} (r:PairR Z es kvs) (hu:VR Z u y):PairR Z (dput k u es) (stored kvs k y):=by
 have hk:=r.keys
 have hany:es.any (fun e=>decide (e.1=k))=kvs.any (fun e=>decide (e.1=k)):=by
  have h1:es.any (fun e=>decide (e.1=k))=(es.map (·.1)).any (fun e=>decide (e=k)):=by rw [List.any_map];rfl
  have h2:kvs.any (fun e=>decide (e.1=k))=(kvs.map (·.1)).any (fun e=>decide (e=k)):=by rw [List.any_map];rfl
  rw [h1,h2,hk]
 unfold dput stored
 rw [hany]
 split
 ·exact r.set hu
 ·exact r.append (in_EEAA y ([]) rfl hu rfl)
section
variable {g:G} {nm:List (Str × NameKind)}
theorem sndS_setI (G:GlobOk g) {o i v:E} {po pi pv:PySem.Expr} {p pos:Pos} (So:Snd g nm po o) (Si:Snd g nm pi i) (Sv:Snd g nm pv v) (hs:∀ env,swapsWith pv (some (.Subscript po pi p)) pos.line env=pure false) :
  SndS g nm (.Assign [.Subscript po pi p] pv pos) (.setI o i v):=by
 intro n A L Fc env m Z0 s0 s Z H N R X D V O B0 w go I LR
 refine wpAny_Assign_Subscript (Sv.stm D V w I LR go fun y u s1 Z1 H1 go1 I1 L1 u0 vr w1=>?_) (hs env)
 refine So.stm D V w1 I1 L1 go1 fun y2 v2 s2 Z2 H2 go2 I2 L2 ex vr2 w2=>?_
 refine Si.stm D V w2 I2 L2 go2 fun y3 v3 s3 Z3 H3 go3 I3 L3 ex3 vr3 w3=>?_
 refine el_EA (refW_el w3) fun a rf1 w3=>?_;subst rf1
 refine el_EA (intW_el w3) fun k rf1 w3=>?_;subst rf1
 ·skip
  obtain ⟨es,ha,hlen,q⟩:=w3
  simp only [VR] at vr2 vr3
  subst vr2
  obtain ⟨t,rfl⟩:=vr3
  obtain ⟨bb,z,fr,δ,o1,o2,o3⟩:=id I3
  refine el_AA (o1 _ _ ha) fun rt0 hz h3=>?_;obtain ⟨ob,kvs,e1,e2,e3,e4⟩:=rt0
  have hd:s3.heap.DictOf (intKind g.prog g.w) a kvs:=Heap.dictOf_iff.mpr (in_EA ob e1 e2)
  have hl:=e4.length
  refine wpAny_setItem_pairs (K:=Int) (knd:=intKind g.prog g.w) (k:=k) (intKind_is g.prog g.w _ t) hd (fun h' hd' sb=>?_) (by rw [sizeLine_eq];exact ln 0x41f1b010000003011b14401110 rfl e3)
  have hz':=VR.mono (ex.trans ex3).seq _ _ vr
  have I4:Inv g.prog g.w g.B (L::Fc) Z3 (put H3 a (.dict (dput k u es))) h':=by
   refine I3.setOwn (o':=.dict (dput k u es)) ha (fun u0 u0 q=>by cases q) (fun u0 u0 q=>by cases q) (fun b x hb e=>(sb.2 b hb).trans e) fun δ=>?_
   refine el_EA (Heap.dictOf_iff.mp hd') fun o' f1 f2=>?_
   exact (in_EEAAA o' _ f1 f2 (by have:=stored_length_le kvs k y;exact ln 0x5f041f1b144010b000003e83212b11211b9121101130 rfl hlen hl this) (stored_dput e4 hz'))
  have hF:a∉L::Fc:=fun q=>by have:=(I3.frs a q).2.1;rw [ha] at this;cases this
  have go4:Go (L::Fc) Z3 s3 Z3 { s3 with heap:=h',toks:=s3.toks+1 }:=⟨.refl _,fun b hb mm e=>e.sameBut sb (neF hb hF),(in_AA rfl rfl rfl)⟩
  exact ⟨m,Z3,_,go3.trans go4.tail,I4,L3.go go4 I4 I3.zin,q⟩
theorem VRs.splice {Z:Zone} {xs ys:List V} {us vs:Array Value} {a b:Nat} (h:VRs Z xs us.toList) (h':VRs Z ys vs.toList):VRs Z (xs.take a++ys++xs.drop b) (us.extract 0 a++vs++us.extract b us.size).toList:=by
 have:(us.extract 0 a++vs++us.extract b us.size).toList=us.toList.take a++vs.toList++us.toList.drop b:=by
  simp only [Array.toList_append,Array.toList_extract,List.extract_eq_take_drop,List.drop_zero,Nat.sub_zero]
  congr 1
  exact List.take_of_length_le (by simp)
 rw [this]
 exact .append (.append (h.take a) h') (h.drop b)
theorem sndS_setSl (G:GlobOk g) {o l u v:E} {po pl pu pv:PySem.Expr} {p0 p pos:Pos} (So:Snd g nm po o) (Sl:Snd g nm pl l) (Su:Snd g nm pu u) (Sv:Snd g nm pv v) (hs:∀ env,swapsWith pv (some (.Subscript po (.Slice (some pl) (some pu) none p0) p)) pos.line env=pure false) :
  SndS g nm (.Assign [.Subscript po (.Slice (some pl) (some pu) none p0) p] pv pos) (.setSl o l u v):=by
 intro n A L Fc env m Z0 s0 s Z H N R X D V O B0 w go I LR
 refine wpAny_Assign_Subscript (Sv.stm D V w I LR go fun y vv s1 Z1 H1 go1 I1 L1 u0 vr w1=>?_) (hs env)
 refine So.stm D V w1 I1 L1 go1 fun y2 v2 s2 Z2 H2 go2 I2 L2 ex vr2 w2=>?_
 refine wpAny_Slice ?_
 refine Sl.stm D V w2 I2 L2 go2 fun y3 v3 s3 Z3 H3 go3 I3 L3 ex3 vr3 w3=>?_
 refine Su.stm D V w3 I3 L3 go3 fun y4 v4 s4 Z4 H4 go4 I4 L4 ex4 vr4 w4=>?_
 refine wpAny_pure ?_
 refine el_EA (refW_el w4) fun a rf1 w4=>?_;subst rf1
 refine el_EEAA (i2_el w4) fun i j rf2 rf3 w4=>?_;subst rf2;subst rf3
 refine el_EA (lstW_el w4) fun ys rf1 w4=>?_;subst rf1
 ·skip
  obtain ⟨xs,ha,hlen,q⟩:=w4
  simp only [VR] at vr2 vr3 vr4
  subst vr2
  obtain ⟨t,rfl⟩:=vr3
  obtain ⟨t',rfl⟩:=vr4
  have vr':=VR.mono ((ex.trans ex3).trans ex4).seq _ _ vr
  simp only [VR] at vr'
  refine el_EEEAAA vr' fun r c us rf3 hr h2 h3=>?_;subst rf3
  refine el_EEAA (I4.listAt ha) fun zs d e1 e2 e3=>?_
  have hne:r≠a:=fun q=>by
   obtain ⟨bb,z,fr,δ,o1,o2,o3⟩:=I4
   have:=(o1 _ _ ha).2.1;rw [← q,hr] at this;cases this
  have l1:=e3.size
  have l2:=h3.size
  let sl:Obj:={ cls:=.type "slice",data:=.fields #[.int i t,.int j t',.none] }
  have kp:Keeps s4.heap (s4.heap.push sl):=keeps_push _ _
  have go5:Go (L::Fc) Z4 s4 Z4 { s4 with heap:=s4.heap.push sl }:=⟨.refl _,.of_keeps kp,(in_AA rfl rfl rfl)⟩
  have I5:=I4.grow kp
  refine setItem_slice (s:={ s4 with heap:=s4.heap.push sl }) (kp _ _ e1) (kp _ _ (I4.zin _ _ hr)) (Heap.IsSliceOf.new ..) (.int i t) (.int j t') hne (by rw [sizeLine_eq];exact ln 0x7df041f1b010000003911310b144901212b31212b1101140 rfl hlen l1 l2) ?_
  have hfin:=OkE.setList (s:={ s4 with heap:=s4.heap.push sl }) (Q:=fun u0 H'=>N m H') (v:=.none) (y:=.none) (t:=s4.toks) (f:=fun xs=>xs.extract 0 (kms_lo (some i) zs.size)++us++xs.extract (max (kms_lo (some i) zs.size) (kms_hi (some j) zs.size)) xs.size) (xs':=spliceL xs ys i j) I5 ha (kp _ _ e1)
   (by simp only [Array.size_append,Array.size_extract];exact ln 0x84106179e081f1b184921961410b144951712b11712b61512b31902411b11311b01212b1101180 rfl hlen l1 l2 (Nat.sub_add_cancel (ln 0x1f1b0102110 rfl)) (Nat.min_le_right _ _) (Nat.sub_le _ _) (Nat.min_eq_left (ln 0x1f1b0101110 rfl))) (by unfold spliceL;rw [l1];exact VRs.splice e3 h3) (by simp only [VR]) q
  obtain ⟨_,Z6,H6,go6,I6,_,q6⟩:=hfin
  have L6:=(L4.go go5 I5 I4.zin).go go6 I6 I5.zin
  exact ⟨m,Z6,H6,(go4.trans go5.tail).trans go6.tail,I6,L6,q6⟩
theorem sndS_asgAA (G:GlobOk g) {x1 x2:Str} {k1 k2:Nat} {o1 o2 e1 e2:E} {po1 po2 pe1 pe2:PySem.Expr} {p1 p2 tp vp pos:Pos} {t1 t2:Nat} (h1:AT[k1]?=some x1) (h2:AT[k2]?=some x2) (So1:Snd g nm po1 o1) (So2:Snd g nm po2 o2) (S1:Snd g nm pe1 e1) (S2:Snd g nm pe2 e2)
  (hst:∀ env,starEach [pe1,pe2] env=[(false,eval pe1 env),(false,eval pe2 env)])
  (hs:∀ env,swapsWithSole [.Tuple [.Attribute po1 x1 p1,.Attribute po2 x2 p2] t1 tp] (.Tuple [pe1,pe2] t2 vp) pos.line env=pure false)
  (hw:∀ env,EnvOk env nm→swappedStores [.Tuple [.Attribute po1 x1 p1,.Attribute po2 x2 p2] t1 tp] (.Tuple [pe1,pe2] t2 vp) env=pure none) :
  SndS g nm (.Assign [.Tuple [.Attribute po1 x1 p1,.Attribute po2 x2 p2] t1 tp] (.Tuple [pe1,pe2] t2 vp) pos) (.asgAA o1 k1 o2 k2 e1 e2):=by
 intro n A L Fc env m Z0 s0 s Z H N R X D V O B0 w go I LR
 refine Assign_Tuple (Tuple_ ?_) (hs env) (hw env V)
 rw [hst]
 refine spliced_cons (S1.stm D V w I LR go fun ya va s1 Z1 H1 go1 I1 L1 u0 vra w1=>?_)
 refine spliced_cons (S2.stm D V w1 I1 L1 go1 fun yb vb s2 Z2 H2 go2 I2 L2 ex2 vrb w2=>?_)
 refine spliced_nil ?_
 refine wpAny_newObj_type ?_ (by show (2:Nat)≤sizeLine;rw [sizeLine_eq];exact by decide)
 refine assign_Tuple_tuple (items:=#[ya,yb]) D.handled (in_EAAE _ (Heap.get?_push_size _ rfl) rfl _ rfl) rfl rfl fun h' he'=>?_
 have kk:Keeps s2.heap h':=(keeps_push _ _).trans (extBut_keeps he')
 have go3:Go (L::Fc) Z2 s2 Z2 { s2 with heap:=h' }:=⟨.refl _,.of_keeps kk,(in_AA rfl rfl rfl)⟩
 have I3:=I2.grow kk
 have L3:=L2.go go3 I3 I2.zin
 refine assignInOrder_cons (t:=assign (.Attribute po1 x1 p1) env) (ts:=[assign (.Attribute po2 x2 p2) env]) (xs:=[yb]) (kas_attr ?_)
 refine So1.stm (s:={ s2 with heap:=h' }) D V w2 I3 L3 (go2.trans go3.tail) fun y4 v4 s4 Z4 H4 go4 I4 L4 ex4 vr4 w4=>?_
 refine att_run G h1 w4 I4 L4 go4 (VR.mono (ex2.trans ex4).seq _ _ vra) vr4 fun s5 H5 go5 I5 L5 w5=>?_
 refine assignInOrder_cons (t:=assign (.Attribute po2 x2 p2) env) (ts:=[]) (xs:=[]) (kas_attr ?_)
 refine So2.stm D V w5 I5 L5 go5 fun y6 v6 s6 Z6 H6 go6 I6 L6 ex6 vr6 w6=>?_
 refine att_run G h2 w6 I6 L6 go6 (VR.mono (ex4.trans ex6).seq _ _ vrb) vr6 fun s7 H7 go7 I7 L7 w7=>?_
 exact assignInOrder_nil ⟨m,Z6,H7,go7,I7,L7,w7⟩
end
end Mine
namespace Mine
structure Chg (Ch:Addr→Prop) (B:Heap) (Z:Zone):Prop where
 fl:∀ b,Ch b→∃ o vs,Z b=some o∧o.data=.fields vs
 nb:∀ b,Ch b→B.get? b=none
structure StepZ (Ch:Addr→Prop) (Z Z':Zone) (s s':Shared):Prop where
 z:∀ b o,¬Ch b→Z b=some o→Z' b=some o
 k:∀ b x,¬Ch b→s.heap.get? b=some x→s'.heap.get? b=some x
 same:Same s s'
theorem Inv.swap {prog:Program} {w:World} {B:Heap} {Fs:List Addr} {Z Z':Zone} {H:Hp} {h h':Heap} {Ch:Addr→Prop} (I:Inv prog w B Fs Z H h) (C:Chg Ch B Z) (hz:∀ b o,¬Ch b→Z b=some o→Z' b=some o)
  (hz':∀ b o,Z' b=some o→h'.get? b=some o∧(Z b≠none∨h.get? b=none)) (k:∀ b x,¬Ch b→h.get? b=some x→h'.get? b=some x):Inv prog w B Fs Z' H h':=by
 have sx:SeqExt Z Z':=fun a o ys n e1 e2=>hz a o (fun q=>by refine el_EEA (C.fl a q) fun o' vs e e'=>?_;rw [e1] at e;cases e;rw [e2] at e';trivial) e1
 have cz:∀ b,Z b=none→¬Ch b:=fun b e q=>by refine el_EEA (C.fl b q) fun o' vs e' u0=>?_;rw [e] at e';trivial
 have I0:=I
 obtain ⟨bb,z,f,δ,o1,o2,o3⟩:=I
 have zn:∀ b,Z b=none→h.get? b≠none→Z' b=none:=fun b e1 e2=>by
  cases q:Z' b with
  | none=>rfl
  | some o=>
   rcases (hz' b o q).2 with q | q
   ·exact absurd e1 q
   ·exact absurd q e2
 have hin:∀ b o,H b=some o→h.get? b≠none:=fun b o e q=>by have:=(I0.hNone q).1;rw [e] at this;trivial
 refine ⟨fun b o e=>hz b o (fun q=>by rw [C.nb b q] at e;trivial) (bb b o e),fun b o e=>(hz' b o e).1,fun b hb=>(in_AA ?_ ((f b hb).2.1) ?_),δ,fun a o e=>(in_AA ((o1 a o e).1.mono sx (fun x=>k a x ?_) (fun C fs e' x=>k _ x ?_)) ?_ ((o1 a o e).2.2)),o2,fun a C fs e=>⟨?_,(o3 a C fs e).2⟩⟩
 ·refine zn b (f b hb).1 fun q=>?_
  refine el_EEEEA ((f b hb).2.2) fun m o es ep e u0=>?_
  rw [q] at e;trivial
 ·refine el_EEEEA ((f b hb).2.2) fun m o es ep e r=>?_
  exact (in_EEEEA m o es ep (k _ _ (cz _ (f b hb).1) e) r)
 ·exact cz _ (o1 a o e).2.1
 ·exact cz _ (o3 a C fs (e'▸e)).1
 ·exact zn a (o1 a o e).2.1 (hin a o e)
 ·refine zn _ (o3 a C fs e).1 fun q=>?_
  refine el_AA ((o1 a _ e).1) fun u0 rt1 u0=>?_;obtain ⟨es,n,e2,-⟩:=rt1
  rw [q] at e2;trivial
section
variable {g:G} {nm:List (Str × NameKind)}
theorem LocR.swap {Ch:Addr→Prop} {Fs:List Addr} {env:Env} {m:Loc} {Z Z':Zone} {H:Hp} {s s':Shared} (L:LocR nm env m Fs Z s.heap) (I:Inv g.prog g.w g.B Fs Z H s.heap) (C:Chg Ch g.B Z) (S:StepZ Ch Z Z' s s'):LocR nm env m Fs Z' s'.heap:=by
 have sx:SeqExt Z Z':=fun a o ys n e1 e2=>S.z a o (fun q=>by refine el_EEA (C.fl a q) fun o' vs e e'=>?_;rw [e1] at e;cases e;rw [e2] at e';trivial) e1
 have cc:∀ c o u,Z c=some o→o.data=.cell u→¬Ch c:=fun c o u e1 e2 q=>by refine el_EEA (C.fl c q) fun o' vs e e'=>?_;rw [e1] at e;cases e;rw [e2] at e';trivial
 obtain ⟨⟨m',n1,n2⟩,c,l,ce⟩:=L
 have nl:¬Ch env.locals:=fun q=>by
  refine el_EEA (C.fl _ q) fun o' vs e e'=>?_
  refine el_EEEAA n1 fun o es ep f1 f2 u0=>?_
  have:=I.zin _ _ e
  rw [f1] at this;cases this;rw [f2] at e';trivial
 refine ⟨(in_EA m' ?_ (fun i x v a b=>?_)),fun i x k v a b e=>?_,?_,fun x c e=>?_⟩
 ·refine el_EEEA n1 fun o es ep f1 r=>?_
  exact (in_EEEA o es ep (S.k _ _ nl f1) r)
 ·refine el_EA (n2 i x v a b) fun y e1 e2=>?_
  exact (in_EA y e1 (VR.mono sx _ _ e2))
 ·refine el_EEEAAA (c i x k v a b e) fun c' o y e1 e2 e3 e4=>?_
  exact (in_EEEAAA c' o y e1 (S.z _ _ (cc _ _ _ e2 e3) e2) e3 (VR.mono sx _ _ e4))
 ·exact l.imp id fun ⟨o,e⟩=>⟨o,S.z _ _ nl e⟩
 ·refine el_EEA (ce x c e) fun o u e1 e2=>?_
  exact (in_EEA o u (S.z _ _ (cc _ _ _ e1 e2) e1) e2)
open Classical in
noncomputable def noC (env:Env) (Z:Zone):Zone:=fun b=>if ∃ x,env.cells.lookup x=some b then none else Z b
noncomputable def Turn (g:G) (A:Around) (Fs:List Addr) (Ch:Addr→Prop) (target:PySem.Expr) (it:Value) (P:List V→Zone→Prop):Prop:=
 ∀ (xs:List V) (Z:Zone) (H:Hp) (s:Shared) (Qn:Shared→Prop) (Qs:Value→Shared→Prop) (E:Value→Shared→Prop),P xs Z→Inv g.prog g.w g.B Fs Z H s.heap →
 (xs=[]→∀ s' Z',StepZ Ch Z Z' s s'→Inv g.prog g.w g.B Fs Z' H s'.heap→Qn s') →
 (∀ x r,xs=x::r→∀ y s' Z',StepZ Ch Z Z' s s'→Inv g.prog g.w g.B Fs Z' H s'.heap→VR Z' x y→P r Z'→Qs y s') →
 wpAny (model g.prog g.w) A (pyNext it) (fun r s1=>match r with
  | none=>Qn s1
  | some v=>wpAny (model g.prog g.w) A (letOwnedTupleGo target it v) (fun u0 s1'=>Qs v s1') E s1) E s
noncomputable def TakeOk (g:G) (nm:List (Str × NameKind)) (target:PySem.Expr) (take:V→Loc→(Loc→Prop)→Prop):Prop:=
 ∀ (A:Around) (L:Addr) (Fc:List Addr) (env:Env) (m:Loc) (s₀ s:Shared) (Z₀ Z:Zone) (H:Hp) (v:V) (y:Value) (N:Loc→Prop) (R:Unit→Shared→Prop) (E:Value→Shared→Prop),
 A.handled=none→EnvOk env nm→FnOk env L Fc Z₀→(∀ b o,g.B.get? b=some o→Z₀ b=some o)→take v m N→Inv g.prog g.w g.B (L::Fc) Z H s.heap→LocR nm env m (L::Fc) Z s.heap→Go Fc Z₀ s₀ Z s→VR Z v y →
 (∀ m' s1 Z1,N m'→Go Fc Z₀ s₀ Z1 s1→Inv g.prog g.w g.B (L::Fc) Z1 H s1.heap→LocR nm env m' (L::Fc) Z1 s1.heap→SeqExt Z Z1→R () s1)→wpAny (model g.prog g.w) A (assign target env y) R E s
theorem take_name {i:Nat} {x:Str} {k:NameKind} {p:Pos} (hi:nm[i]?=some (x,k)) (hk:k=.local∨k=.cell):TakeOk g nm (.Name x p) fun v m N=>N (m.set i (some v)):=
 fun u0 u0 u0 u0 u0 u0 u0 u0 u0 u0 u0 u0 u0 u0 u0 u0 V O B0 w I L go vr h=>wpAny_assign_Name (store_any hi hk V O B0 I L go vr fun s1 Z1 go1 I1 L1 sx=>h _ s1 Z1 w go1 I1 L1 sx)
theorem take_names {es:List PySem.Expr} {is:List Nat} {x1:Nat} {pos:Pos} (T:TrT nm es is):TakeOk g nm (.Tuple es x1 pos) (takeIt is false):=
 fun u0 u0 u0 u0 u0 u0 u0 u0 u0 u0 u0 u0 u0 u0 u0 hh V O B0 w I L go vr h=>take_tuple T hh V O B0 w I L go vr h
theorem for_run {target:PySem.Expr} {it:Value} {pb:List Stmt} {b:List S} {take:V→Loc→(Loc→Prop)→Prop} (Tk:TakeOk g nm target take) (Sb:SndSs g nm pb b) {n:Nat} {A:Around} {L:Addr} {Fc:List Addr} {env:Env} {m:Loc} {Z0:Zone} {s0 s:Shared} {Z:Zone} {H:Hp} {N:QN} {R:QV} {xs:List V}
  {Ch:Addr→Prop} {P:List V→Zone→Prop} (T:Turn g A (L::Fc) Ch target it P) (st:∀ xs Z Z',P xs Z→(∀ b o,Z b=some o→(∀ u,o.data≠.cell u)→Z' b=some o)→P xs Z') (pf:∀ xs Z b,P xs Z→Ch b→∃ o vs,Z b=some o∧o.data=.fields vs)
  (hCh:∀ b,Ch b→Z0 b=none) (D:Gd A (L::Fc) n) (V0:EnvOk env nm) (O:FnOk env L Fc Z0) (B0:∀ b o,g.B.get? b=some o→Z0 b=some o)
  (w:loopW (fun v m' N' H'=>take v m' fun m''=>wSs g n b m'' N' R (fun u0 u0=>False) H') xs m N H) (p:P xs Z) (go:Go Fc Z0 s0 Z s) (I:Inv g.prog g.w g.B (L::Fc) Z H s.heap) (LR:LocR nm env m (L::Fc) Z s.heap) :
  codeAny (model g.prog g.w) A (.forLoop target it pb [] env) (fun r s'=>match r with | .ok f=>OkS g nm env L Fc Z0 s0 N R f s' | .error _=>False) s:=by
 refine codeAny_forLoop_any (fun k s=>∃ xs m Z H,k=xs.length∧P xs Z∧loopW (fun v m' N' H'=>take v m' fun m''=>wSs g n b m'' N' R (fun u0 u0=>False) H') xs m N H∧Go Fc Z0 s0 Z s∧Inv g.prog g.w g.B (L::Fc) Z H s.heap∧LocR nm env m (L::Fc) Z s.heap) ?_ xs.length (in_EEEEAAAA xs m Z H rfl p w go ⟨I,LR⟩)
 clear p w go I LR xs m Z H s
 rintro k s ⟨xs,m,Z,H,rfl,p,w,go,I,LR⟩
 have C:Chg Ch g.B Z:=⟨fun b hb=>pf xs Z b p hb,fun b hb=>by
  cases q:g.B.get? b with
  | none=>rfl
  | some o=>have:=B0 b o q;rw [hCh b hb] at this;trivial⟩
 have goS:∀ s' Z',StepZ Ch Z Z' s s'→Go Fc Z0 s0 Z' s':=fun s' Z' S=>by
  refine ⟨fun b o e=>S.z b o (fun q=>by rw [hCh b q] at e;trivial) (go.ext b o e),fun b hb mm e=>?_,go.same.trans S.same⟩
  refine el_EEEA (go.frk b hb mm e) fun o es ep e1 r=>?_
  have:¬Ch b:=fun q=>by refine el_EEA (C.fl b q) fun o' vs e' u0=>?_;rw [(I.frs b (.tail _ hb)).1] at e';trivial
  exact (in_EEEA o es ep (S.k b _ this e1) r)
 refine T xs Z H s _ _ _ p I (fun e s' Z' S I'=>?_) (fun x r e y s' Z' S I' vr p'=>?_)
 ·subst e
  exact wpAny_execs_nil ⟨m,Z',H,goS s' Z' S,I',LR.swap I C S,w⟩
 ·subst e
  have L':=LR.swap I C S
  have go':=goS s' Z' S
  have noCz:∀ b o,noC env Z' b=some o→Z' b=some o:=fun b o e=>by
   unfold noC at e
   split at e
   ·trivial
   ·exact e
  have zno:∀ b o,Z0 b=some o→noC env Z' b=some o:=fun b o e=>by
   unfold noC
   rw [if_neg (fun ⟨x,hx⟩=>by have:=O.cz x b hx;rw [e] at this;trivial)]
   exact go'.ext b o e
  have ncell:∀ b o,Z' b=some o→(∀ u,o.data≠.cell u)→noC env Z' b=some o:=fun b o e hu=>by
   unfold noC
   rw [if_neg (fun ⟨x,hx⟩=>by refine el_EEA (L'.cex x b hx) fun o' u e1 e2=>?_;rw [e] at e1;cases e1;exact hu u e2)]
   exact e
  have O1:FnOk env L Fc (noC env Z'):=⟨O.loc,O.nL,fun x c e=>by unfold noC;rw [if_pos ⟨x,e⟩],O.cinj⟩
  have B1:∀ b o,g.B.get? b=some o→noC env Z' b=some o:=fun b o e=>zno b o (B0 b o e)
  have go1:Go Fc (noC env Z') s' Z' s':=⟨noCz,.refl _ _,.refl _⟩
  have back:∀ Z2 s2,Go Fc (noC env Z') s' Z2 s2→Go Fc Z0 s0 Z2 s2:=fun Z2 s2 g2=>⟨fun b o e=>g2.ext b o (zno b o e),go'.frk.trans g2.frk,go'.same.trans g2.same⟩
  refine Tk A L Fc env m s' s' (noC env Z') Z' H x y _ _ _ D.handled V0 O1 B1 w I' L' go1 vr fun m' s1 Z1 w1 go2 I1 L1 u0=>?_
  refine wpAny_mono (Sb n A L Fc env m' (noC env Z') s' s1 Z1 H _ R _ D V0 O1 B1 w1 go2 I1 L1) (fun f s2 q=>?_) fun u0 u0 x=>(noX x).elim
  cases f with
  | next=>
   obtain ⟨m2,Z2,H2,go3,I2,L2,q⟩:=q
   exact (in_EA r.length (Nat.lt_succ_self _) ⟨r,m2,Z2,H2,rfl,st r Z' Z2 p' fun b o e hu=>go3.ext b o (ncell b o e hu),q,back Z2 s2 go3,I2,L2⟩)
  | ret v=>
   obtain ⟨v',Z2,H2,go3,I2,vr2,q⟩:=q
   exact ⟨v',Z2,H2,back Z2 s2 go3,I2,vr2,q⟩
  | _=>exact q.elim
end
end Mine
namespace Mine
section
variable {g:G} {nm:List (Str × NameKind)}
noncomputable def PList (it:Addr) (xs:List V) (Z:Zone):Prop:=
 ∃ i o l ys n,Z it=some o∧o.cls=.type "list_iterator"∧o.data=.fields #[.ref l,.int ((i:Nat):Int) 0]∧Z l=some (PySem.W.listOf ys n)∧VRs Z xs (ys.toList.drop i)
theorem PList.st {it:Addr}:∀ xs Z Z',PList it xs Z→(∀ b o,Z b=some o→(∀ u,o.data≠.cell u)→Z' b=some o)→PList it xs Z':=by
 rintro xs Z Z' ⟨i,o,l,ys,n,e1,e2,e3,e4,e5⟩ h
 exact (in_EE i o ⟨l,ys,n,h _ _ e1 (fun u q=>by rw [e3] at q;trivial),e2,e3,h _ _ e4 (fun u q=>by trivial),VRs.mono (fun a o us k q1 q2=>h _ _ q1 fun u q=>by rw [q2] at q;trivial) _ _ e5⟩)
theorem PList.pf {it:Addr}:∀ xs Z b,PList it xs Z→b=it→∃ o vs,Z b=some o∧o.data=.fields vs:=by
 rintro xs Z b ⟨i,o,l,ys,n,e1,e2,e3,-⟩ rfl
 exact (in_EEA o _ e1 e3)
theorem letOwned_list {A:Around} {E:Value→Shared→Prop} {s:Shared} {es:List PySem.Expr} {x1:Nat} {pos:Pos} {it l:Addr} {i:Nat} {v:Value} {Q:Unit→Shared→Prop} (hit:s.heap.IsListIter it l i) (h:Q () s) :
  wpAny (model g.prog g.w) A (letOwnedTupleGo (.Tuple es x1 pos) (.ref it) v) Q E s:=by
 by_cases q:∃ a,v=.ref a
 ·obtain ⟨a,rfl⟩:=q
  exact wpAny_letOwnedTupleGo_listiter hit h
 ·have:letOwnedTupleGo (.Tuple es x1 pos) (.ref it) v=pure ():=by
   unfold letOwnedTupleGo
   cases v<;>first | rfl | exact absurd ⟨_,rfl⟩ q
  exact wpAny_of_eq this h
theorem turn_list {A:Around} {Fs:List Addr} {target:PySem.Expr} {it:Addr} (hh:A.handled=none) (hB:g.B.get? it=none)
  (hl:∀ (s:Shared) (l:Addr) (i:Nat) (v:Value) (Q:Unit→Shared→Prop) (E:Value→Shared→Prop),s.heap.IsListIter it l i→Q () s→wpAny (model g.prog g.w) A (letOwnedTupleGo target (.ref it) v) Q E s) :
  Turn g A Fs (·=it) target (.ref it) (PList it):=by
 rintro xs Z H s Qn Qs E ⟨i,o,l,ys,n,e1,e2,e3,e4,e5⟩ I hn hs
 have hit:s.heap.IsListIter it l i:=(in_EAA o (I.zin _ _ e1) e2 e3)
 have hls:s.heap.IsList l ys:=(in_EAAE _ (I.zin _ _ e4) rfl n rfl)
 have hlit:l≠it:=fun q=>by rw [q,e1] at e4;cases e4;trivial
 have C:Chg (·=it) g.B Z:=⟨fun b hb=>(in_EEA o _ (hb▸e1) e3),fun b hb=>hb▸hB⟩
 cases hy:ys[i]? with
 | none=>
  have hxs:xs=[]:=by
   have h1:=e5.length
   have h2:ys.size≤i:=by simpa using hy
   have h3:ys.toList.length=ys.size:=by simp
   rw [List.length_drop,h3] at h1
   exact List.length_eq_zero_iff.mp (ln 0x86105f7c1f2b02112b01112b0201120 rfl h1 (Nat.sub_eq_zero_of_le h2))
  refine wpAny_pyNext_list_end hh hit hls hy fun h' he=>?_
  have S:StepZ (·=it) Z (del Z it) s { s with heap:=h' }:=⟨fun b o hb e=>by rw [del_ne hb];exact e,fun b x hb e=>he b x hb e,(in_AA rfl rfl rfl)⟩
  exact hn hxs _ (del Z it) S (I.swap C S.z (fun b o' e=>by
   by_cases q:b=it
   ·rw [q,del_at] at e;trivial
   ·rw [del_ne q] at e;exact ⟨he b o' q (I.zin _ _ e),.inl (by rw [e];simp)⟩) S.k)
 | some y=>
  have hlt:i < ys.size:=(Array.getElem?_eq_some_iff.mp hy).1
  have hd:ys.toList.drop i=y::ys.toList.drop (i+1):=by
   rw [List.drop_eq_getElem_cons (by simpa using hlt)]
   congr 1
   have:=(Array.getElem?_eq_some_iff.mp hy).2
   simpa using this
  rw [hd] at e5
  cases xs with
  | nil=>trivial
  | cons x r=>
   simp only [VRs] at e5
   refine el_EEAA e5 fun y' r' e v1 v2=>?_
   cases e
   refine wpAny_pyNext_list_item hit hls hy fun h' hit' sb=>?_
   refine el_EAA (id hit') fun o' f1 f2 f3=>?_
   have S:StepZ (·=it) Z (put Z it o') s { s with heap:=h' }:=⟨fun b o hb e=>by rw [put_ne hb];exact e,fun b x hb e=>sb.extBut b x hb e,(in_AA rfl rfl rfl)⟩
   have I':Inv g.prog g.w g.B Fs (put Z it o') H h':=I.swap C S.z (fun b o2 e=>by
    by_cases q:b=it
    ·subst q;rw [put_at] at e;cases e;exact ⟨f1,.inl (by rw [e1];simp)⟩
    ·rw [put_ne q] at e;exact ⟨sb.extBut b o2 q (I.zin _ _ e),.inl (by rw [e];simp)⟩) S.k
   have sx:SeqExt Z (put Z it o'):=fun a o2 us k q1 q2=>by
    by_cases q:a=it
    ·subst q;rw [e1] at q1;cases q1;rw [e3] at q2;trivial
    ·rw [put_ne q];exact q1
   refine hl { s with heap:=h' } l (i+1) y _ _ hit' (hs x r rfl y _ (put Z it o') S I' (VR.mono sx _ _ v1) (in_EE (i+1) o' ⟨l,ys,n,put_at,f2,f3,?_,VRs.mono sx _ _ v2⟩))
   rw [put_ne hlit];exact e4
noncomputable def PRange (it:Addr) (xs:List V) (Z:Zone):Prop:=
 ∃ x left:Int,Z it=some { cls:=.type "range_iterator",dict:=none,data:=.fields #[rawInt x,rawInt left,rawInt 1],slots:=#[] }∧xs=(List.range left.toNat).map fun k=>V.int (x+(k:Nat))
theorem PRange.st {it:Addr}:∀ xs Z Z',PRange it xs Z→(∀ b o,Z b=some o→(∀ u,o.data≠.cell u)→Z' b=some o)→PRange it xs Z':=by
 rintro xs Z Z' ⟨x,left,e1,e2⟩ h
 exact (in_EEA x left (h _ _ e1 (fun u q=>by trivial)) e2)
theorem PRange.pf {it:Addr}:∀ xs Z b,PRange it xs Z→b=it→∃ o vs,Z b=some o∧o.data=.fields vs:=by
 rintro xs Z b ⟨x,left,e1,e2⟩ rfl
 exact (in_EEA _ _ e1 rfl)
theorem turn_range {A:Around} {Fs:List Addr} {x0:Str} {p0:Pos} {it:Addr} (hh:A.handled=none) (hB:g.B.get? it=none):Turn g A Fs (·=it) (.Name x0 p0) (.ref it) (PRange it):=by
 rintro xs Z H s Qn Qs E ⟨x,left,e1,rfl⟩ I hn hs
 have hit:IsRangeIter s.heap it x left 1:=I.zin _ _ e1
 have C:Chg (·=it) g.B Z:=⟨fun b hb=>(in_EEA _ _ (hb▸e1) rfl),fun b hb=>hb▸hB⟩
 by_cases hl:0 < left
 ·obtain ⟨n,rfl⟩:∃ n:Nat,left=(n:Int)+1:=⟨(left - 1).toNat,by rw [Int.toNat_of_nonneg (show 0≤left - 1 from Int.sub_nonneg_of_le hl),Int.sub_add_cancel]⟩
  refine wpAny_pyNext_range_item hit hl fun h' hit' sb=>?_
  have hxs:(List.range ((n:Int)+1).toNat).map (fun k=>V.int (x+(k:Nat)))=V.int x::(List.range n).map fun k=>V.int (x+1+(k:Nat)):=by
   have:((n:Int)+1).toNat=n+1:=ln 0x8417c1f2b91211012c912611601120 rfl (Int.toNat_of_nonneg (ln 0x41f1c912601020c91260102110 rfl hl))
   rw [this,List.range_succ_eq_map,List.map_cons,List.map_map]
   congr 1
   ·simp
   ·refine List.map_congr_left fun k u0=>?_
    show V.int _=V.int _
    congr 1
    push_cast
    exact ln 0x41f2c960191200991260100111 rfl
  have hit2:IsRangeIter h' it (x+1) n 1:=by have:=hit';rw [show (n:Int)+1 - 1=n by exact ln 0x41f2c601a12912601110 rfl] at this;exact this
  have S:StepZ (·=it) Z (put Z it { cls:=.type "range_iterator",dict:=none,data:=.fields #[rawInt (x+1),rawInt n,rawInt 1],slots:=#[] }) s { s with heap:=h',toks:=s.toks+1 }:=
   ⟨fun b o hb e=>by rw [put_ne hb];exact e,fun b x hb e=>sb.extBut b x hb e,(in_AA rfl rfl rfl)⟩
  have I':=I.swap (h':=h') C S.z (fun b o2 e=>by
    by_cases q:b=it
    ·subst q;rw [put_at] at e;cases e;exact ⟨hit2,.inl (by rw [e1];simp)⟩
    ·rw [put_ne q] at e;exact ⟨sb.extBut b o2 q (I.zin _ _ e),.inl (by rw [e];simp)⟩) S.k
  exact wpAny_of_eq rfl (hs _ _ hxs _ _ _ S I' (by simp only [VR];exact ⟨_,rfl⟩) (in_EEA (x+1) n put_at (by rfl)))
 ·refine wpAny_pyNext_range_end hh hit (by exact ln 0x41f1c02008c0002101 rfl hl) fun h' he=>?_
  have S:StepZ (·=it) Z (del Z it) s { s with heap:=h' }:=⟨fun b o hb e=>by rw [del_ne hb];exact e,fun b x hb e=>he b x hb e,(in_AA rfl rfl rfl)⟩
  refine hn ?_ _ (del Z it) S (I.swap C S.z (fun b o' e=>by
   by_cases q:b=it
   ·rw [q,del_at] at e;trivial
   ·rw [del_ne q] at e;exact ⟨he b o' q (I.zin _ _ e),.inl (by rw [e];simp)⟩) S.k)
  rw [show left.toNat=0 by exact ln 0x8417c1f2b02012b0201110 rfl (Int.toNat_of_nonpos (ln 0x41f1c02008c0002101 rfl hl))];rfl
end
end Mine
namespace Mine
section
variable {g:G} {nm:List (Str × NameKind)}
noncomputable abbrev enumObj (it:Addr) (i:Int) (old:Value):Obj:={ cls:=.type "enumerate",dict:=none,data:=.fields #[.none,.bool false,.ref it,rawInt i,.none,old],slots:=#[] }
noncomputable def pairsFrom (i:Nat):List V→List V
 | []=>[]
 | v::r=>.tup [.int ((i:Nat):Int),v]::pairsFrom (i+1) r
theorem pairsFrom_map:∀ (us:List V) (i:Nat),pairsFrom i us=us.mapIdx fun p v=>.tup [.int ((i+p:Nat):Int),v]
 | []=>@fun u0=>rfl
 | v::r=>@fun i=>by
  rw [pairsFrom,List.mapIdx_cons,pairsFrom_map r (i+1)]
  congr 1
  refine List.mapIdx_eq_mapIdx_iff.mpr fun k hk=>?_
  rw [Nat.add_assoc,Nat.add_comm 1 k]
noncomputable def PEnum (e it:Addr) (xs:List V) (Z:Zone):Prop:=
 ∃ i old o l ys n us,Z e=some (enumObj it ((i:Nat):Int) old)∧Z it=some o∧o.cls=.type "list_iterator"∧o.data=.fields #[.ref l,.int ((i:Nat):Int) 0]∧Z l=some (PySem.W.listOf ys n)∧VRs Z us (ys.toList.drop i)∧xs=pairsFrom i us
theorem PEnum.st {e it:Addr}:∀ xs Z Z',PEnum e it xs Z→(∀ b o,Z b=some o→(∀ u,o.data≠.cell u)→Z' b=some o)→PEnum e it xs Z':=by
 rintro xs Z Z' ⟨i,old,o,l,ys,n,us,e0,e1,e2,e3,e4,e5,e6⟩ h
 exact (in_EE i old ⟨o,l,ys,n,us,h _ _ e0 (fun u q=>by trivial),h _ _ e1 (fun u q=>by rw [e3] at q;trivial),e2,e3,h _ _ e4 (fun u q=>by trivial),VRs.mono (fun a o us k q1 q2=>h _ _ q1 fun u q=>by rw [q2] at q;trivial) _ _ e5,e6⟩)
theorem PEnum.pf {e it:Addr}:∀ xs Z b,PEnum e it xs Z→b=e∨b=it→∃ o vs,Z b=some o∧o.data=.fields vs:=by
 rintro xs Z b ⟨i,old,o,l,ys,n,us,e0,e1,e2,e3,-⟩ (rfl | rfl)
 ·exact (in_EEA _ _ e0 rfl)
 ·exact (in_EEA o _ e1 e3)
theorem turn_enum {A:Around} {Fs:List Addr} {es:List PySem.Expr} {x1:Nat} {pos:Pos} {e it:Addr} (hh:A.handled=none) (hB:g.B.get? it=none) (hB':g.B.get? e=none) (hne:e≠it) :
  Turn g A Fs (fun b=>b=e∨b=it) (.Tuple es x1 pos) (.ref e) (PEnum e it):=by
 rintro xs Z H s Qn Qs E ⟨i,old,o,l,ys,n,us,e0,e1,e2,e3,e4,e5,rfl⟩ I hn hs
 have hit:s.heap.IsListIter it l i:=(in_EAA o (I.zin _ _ e1) e2 e3)
 have hls:s.heap.IsList l ys:=(in_EAAE _ (I.zin _ _ e4) rfl n rfl)
 have hen:IsEnum s.heap e it ((i:Nat):Int) old:=I.zin _ _ e0
 have hlit:l≠it:=fun q=>by rw [q,e1] at e4;cases e4;trivial
 have hle:l≠e:=fun q=>by rw [q,e0] at e4;have q2:Data.fields _=Data.seq _ _:=congrArg Obj.data (Option.some.inj e4);trivial
 have C:Chg (fun b=>b=e∨b=it) g.B Z:=⟨fun b hb=>by
  rcases hb with rfl | rfl
  ·exact (in_EEA _ _ e0 rfl)
  ·exact (in_EEA o _ e1 e3),fun b hb=>by rcases hb with rfl | rfl<;>assumption⟩
 cases hy:ys[i]? with
 | none=>
  have hxs:us=[]:=by
   have h1:=e5.length
   have h2:ys.size≤i:=by simpa using hy
   have h3:ys.toList.length=ys.size:=by simp
   rw [List.length_drop,h3] at h1
   exact List.length_eq_zero_iff.mp (ln 0x86105f7c1f2b02112b01112b0201120 rfl h1 (Nat.sub_eq_zero_of_le h2))
  subst hxs
  refine wpAny_pyNext_enum_end hh hen hit hls hy fun h' he=>?_
  have S:StepZ (fun b=>b=e∨b=it) Z (del Z it) s { s with heap:=h' }:=⟨fun b o hb e=>by rw [del_ne fun q=>hb (.inr q)];exact e,fun b x hb e=>he b x (fun q=>hb (.inr q)) e,(in_AA rfl rfl rfl)⟩
  exact hn rfl _ (del Z it) S (I.swap C S.z (fun b o' e=>by
   by_cases q:b=it
   ·rw [q,del_at] at e;trivial
   ·rw [del_ne q] at e;exact ⟨he b o' q (I.zin _ _ e),.inl (by rw [e];simp)⟩) S.k)
 | some y=>
  have hlt:i < ys.size:=(Array.getElem?_eq_some_iff.mp hy).1
  have hd:ys.toList.drop i=y::ys.toList.drop (i+1):=by
   rw [List.drop_eq_getElem_cons (by simpa using hlt)]
   congr 1
   have:=(Array.getElem?_eq_some_iff.mp hy).2
   simpa using this
  rw [hd] at e5
  cases us with
  | nil=>trivial
  | cons x r=>
   simp only [VRs] at e5
   refine el_EEAA e5 fun y' r' e' v1 v2=>?_
   cases e'
   refine wpAny_pyNext_enum_item hen hit hls hy hne fun h1 ho hit1 ht hz1 hk1=>?_
   refine wpAny_letOwnedTupleGo_enum ho fun h2 he2 sb2=>?_
   replace sb2:Heap.SameBut e h1 h2:=sb2
   have heL:e < s.heap.objs.size:=Heap.lt_size hen
   have hiL:it < s.heap.objs.size:=by refine el_EA hit fun oo q u0=>?_;exact Heap.lt_size q
   have nT:=size_none s.heap
   have hTe:s.heap.objs.size≠e:=Nat.ne_of_gt heL
   have hTi:s.heap.objs.size≠it:=Nat.ne_of_gt hiL
   have ht2:h2.get? s.heap.objs.size=some (tupOf #[.int ((i:Nat):Int) s.toks,y] 0):=(sb2.2 _ hTe).trans ht
   refine el_EAA (id hit1) fun o' f1 f2 f3=>?_
   have f1':h2.get? it=some o':=(sb2.2 _ (Ne.symm hne)).trans f1
   let Z':=put (put (put Z s.heap.objs.size (tupOf #[.int ((i:Nat):Int) s.toks,y] 0)) it o') e (enumObj it (((i+1:Nat):Nat):Int) y)
   have zT:Z s.heap.objs.size=none:=(I.hNone nT).2.1
   have zo:∀ b oo,b≠e→b≠it→Z b=some oo→Z' b=some oo:=fun b oo q1 q2 q3=>by
    show put _ _ _ b=_
    rw [put_ne q1,put_ne q2,put_ne (fun q=>by rw [q,zT] at q3;trivial)];exact q3
   have zt:Z' s.heap.objs.size=some (tupOf #[.int ((i:Nat):Int) s.toks,y] 0):=by
    show put _ _ _ _=_
    rw [put_ne hTe,put_ne hTi,put_at]
   have hk2:∀ b x,¬(b=e∨b=it)→s.heap.get? b=some x→h2.get? b=some x:=fun b x hb q=>(sb2.2 b fun z=>hb (.inl z)).trans (hk1 b x (fun z=>hb (.inl z)) (fun z=>hb (.inr z)) q)
   have S:StepZ (fun b=>b=e∨b=it) Z Z' s { s with heap:=h2,toks:=s.toks+1 }:=⟨fun b o hb q=>zo b o (fun z=>hb (.inl z)) (fun z=>hb (.inr z)) q,hk2,(in_AA rfl rfl rfl)⟩
   have he2':IsEnum h2 e it (((i+1:Nat):Nat):Int) y:=he2
   have I':Inv g.prog g.w g.B Fs Z' H h2:=I.swap C S.z (fun b o2 q=>by
    change put _ _ _ b=_ at q
    by_cases q1:b=e
    ·rw [q1,put_at] at q;cases q;rw [q1];exact ⟨he2',.inl (by rw [e0];simp)⟩
    ·rw [put_ne q1] at q
     by_cases q2:b=it
     ·rw [q2,put_at] at q;cases q;rw [q2];exact ⟨f1',.inl (by rw [e1];simp)⟩
     ·rw [put_ne q2] at q
      by_cases q3:b=s.heap.objs.size
      ·rw [q3,put_at] at q;cases q;rw [q3];exact ⟨ht2,.inr nT⟩
      ·rw [put_ne q3] at q;exact ⟨hk2 b o2 (fun z=>z.elim q1 q2) (I.zin _ _ q),.inl (by rw [q];simp)⟩) S.k
   have sx:SeqExt Z Z':=fun a o2 us k q1 q2=>by
    refine zo a o2 (fun q=>?_) (fun q=>?_) q1
    ·rw [q,e0] at q1;cases q1;trivial
    ·rw [q,e1] at q1;cases q1;rw [e3] at q2;trivial
   refine hs (.tup [.int ((i:Nat):Int),x]) (pairsFrom (i+1) r) rfl _ _ Z' S I' ?_ (in_EE (i+1) y ⟨o',l,ys,n,r,?_,?_,f2,f3,zo l _ hle hlit e4,VRs.mono sx _ _ v2,rfl⟩)
   ·simp only [VR]
    refine (in_EEEAAA _ 0 _ rfl zt (by show (2:Nat)≤_;exact by exact Nat.le_of_ble_eq_true rfl) ?_)
    exact .cons (by simp only [VR];exact ⟨_,rfl⟩) (.one (VR.mono sx _ _ v1))
   ·show put _ _ _ _=_;exact put_at
   ·show put _ _ _ _=_;exact (put_ne (Ne.symm (by assumption))).trans put_at
end
end Mine
namespace Mine
section
variable {g:G} {nm:List (Str × NameKind)}
theorem Go.grown {Fs:List Addr} {Z:Zone} {H:Hp} {s:Shared} {h':Heap} {a:Addr} {o:Obj} {t:Nat} (I:Inv g.prog g.w g.B Fs Z H s.heap) (k:Keeps s.heap h') (ha:s.heap.get? a=none) (ho:h'.get? a=some o) :
  Go Fs Z s (put Z a o) { s with heap:=h',toks:=t }∧Inv g.prog g.w g.B Fs (put Z a o) H h':=
 ⟨⟨Ext.put (I.hNone ha).2.1,.of_keeps k,(in_AA rfl rfl rfl)⟩,I.freezeNew k ha ho⟩
theorem forL_any {target piter:PySem.Expr} {e:E} {pb:List Stmt} {b:List S} {pos:Pos} {take:V→Loc→(Loc→Prop)→Prop} (Tk:TakeOk g nm target take) (Se:Snd g nm piter e) (Sb:SndSs g nm pb b)
  (hl:∀ (A:Around) (it:Addr) (s:Shared) (l:Addr) (i:Nat) (v:Value) (Q:Unit→Shared→Prop) (E:Value→Shared→Prop),s.heap.IsListIter it l i→Q () s→wpAny (model g.prog g.w) A (letOwnedTupleGo target (.ref it) v) Q E s)
  (hs:∀ env x,foldedSetIterable piter env x=pure x) {n:Nat} {A:Around} {L:Addr} {Fc:List Addr} {env:Env} {m:Loc} {Z0:Zone} {s0 s:Shared} {Z:Zone} {H:Hp} {N:QN} {R:QV} {X:QX} (D:Gd A (L::Fc) (n+1)) (V0:EnvOk env nm) (O:FnOk env L Fc Z0) (B0:∀ b o,g.B.get? b=some o→Z0 b=some o)
  (w:wE g (n+1) e m (fun x H1=>lstW x fun xs=>loopW (fun v m' N' H'=>take v m' fun m''=>wSs g n b m'' N' R (fun u0 u0=>False) H') xs m N H1) X H) (go:Go Fc Z0 s0 Z s) (I:Inv g.prog g.w g.B (L::Fc) Z H s.heap) (LR:LocR nm env m (L::Fc) Z s.heap) :
  wpAny (model g.prog g.w) A (exec (.For target piter pb [] pos) env) (OkS g nm env L Fc Z0 s0 N R) (ExS g L Fc Z0 s0 X) s:=by
 refine wpAny_For (Se.stm D V0 w I LR go fun y v s1 Z1 H1 go1 I1 L1 u0 vr q=>?_) (hs env)
 refine el_EA (lstW_el q) fun xs rf1 q=>?_;subst rf1
 ·skip
  simp only [VR] at vr
  refine el_EEEAAA vr fun l c ys rf3 e1 e2 e3=>?_;subst rf3
  refine wpAny_pyIter_list (in_EAAE _ (I1.zin _ _ e1) rfl c rfl) ?_
  have ha:=size_none s1.heap
  have ho:(s1.heap.push { cls:=.type "list_iterator",data:=.fields #[.ref l,.int 0 0] }).get? s1.heap.objs.size=some { cls:=.type "list_iterator",data:=.fields #[.ref l,.int 0 0] }:=Heap.get?_push_size _ rfl
  obtain ⟨go2,I2⟩:=Go.grown (t:=s1.toks) I1 (keeps_push _ _) ha ho
  have L2:=L1.go go2 I2 I1.zin
  have zn:=(I1.hNone ha).2.1
  have hB:g.B.get? s1.heap.objs.size=none:=by
   cases q:g.B.get? s1.heap.objs.size with
   | none=>rfl
   | some o=>have:=I1.base _ _ q;rw [zn] at this;exact this.symm
  refine codeAny_mono (for_run Tk Sb (turn_list D.handled hB (hl A _)) PList.st PList.pf (fun b hb=>?_) D.pred V0 O B0 q ?_ (go1.trans go2.tail) I2 L2) fun r s' q=>(by cases r with | ok f=>exact q | error e=>exact q.elim)
  ·subst hb
   cases q:Z0 s1.heap.objs.size with
   | none=>rfl
   | some o=>have:=go1.ext _ _ q;rw [zn] at this;exact this.symm
  ·refine (in_EE 0 _ ⟨l,ys,c,put_at,rfl,rfl,(Ext.put zn) _ _ e1,VRs.mono (Ext.put zn).seq _ _ (by trivial)⟩)
theorem sndS_forL1 {x:Str} {k:NameKind} {i:Nat} {p pos:Pos} {piter:PySem.Expr} {e:E} {pb:List Stmt} {b:List S} (hi:nm[i]?=some (x,k)) (hk:k=.local∨k=.cell) (Se:Snd g nm piter e) (hs:∀ env x,foldedSetIterable piter env x=pure x) (Sb:SndSs g nm pb b) :
  SndS g nm (.For (.Name x p) piter pb [] pos) (.forL [i] true e b):=by
 intro n A L Fc env m Z0 s0 s Z H N R X D V O B0 w go I LR
 cases n with
 | zero=>exact w.elim
 | succ n=>exact forL_any (take_name hi hk) Se Sb (fun A it s l i v Q E u0 h=>wpAny_of_eq rfl h) hs D V O B0 w go I LR
theorem sndS_forLT {es:List PySem.Expr} {is:List Nat} {x1:Nat} {p pos:Pos} {piter:PySem.Expr} {e:E} {pb:List Stmt} {b:List S} (T:TrT nm es is) (Se:Snd g nm piter e) (hs:∀ env x,foldedSetIterable piter env x=pure x) (Sb:SndSs g nm pb b) :
  SndS g nm (.For (.Tuple es x1 p) piter pb [] pos) (.forL is false e b):=by
 intro n A L Fc env m Z0 s0 s Z H N R X D V O B0 w go I LR
 cases n with
 | zero=>exact w.elim
 | succ n=>exact forL_any (take_names T) Se Sb (fun A it s l i v Q E hit h=>letOwned_list hit h) hs D V O B0 w go I LR
theorem forR_any {i:Nat} {x:Str} {k:NameKind} {p:Pos} {pb:List Stmt} {b:List S} (hi:nm[i]?=some (x,k)) (hk:k=.local∨k=.cell) (Sb:SndSs g nm pb b) {n:Nat} {A:Around} {L:Addr} {Fc:List Addr} {env:Env} {m:Loc} {Z0:Zone} {s0 s s1:Shared} {Z:Zone} {H:Hp} {N:QN} {R:QV} {Q:Flow→Shared→Prop} {E':Value→Shared→Prop} {lo hi':Int} {r:Addr} {t u v:Tok} (D:Gd A (L::Fc) n) (V0:EnvOk env nm) (O:FnOk env L Fc Z0) (B0:∀ b o,g.B.get? b=some o→Z0 b=some o)
  (hb:lo.natAbs < 2 ^ 60∧hi'.natAbs < 2 ^ 60)
  (w:loopW (fun v m' N' H'=>wSs g n b (m'.set i (some v)) N' R (fun u0 u0=>False) H') (vints (rangeL lo hi')) m N H)
  (go:Go Fc Z0 s0 Z s) (I:Inv g.prog g.w g.B (L::Fc) Z H s.heap) (LR:LocR nm env m (L::Fc) Z s.heap) (k1:Keeps s.heap s1.heap) (sm:Same s s1) (hr:IsRange s1.heap r lo hi' 1 t u v)
  (hQ:∀ (r:Result) s',(match r with | .ok f=>OkS g nm env L Fc Z0 s0 N R f s' | .error _=>False)→(match r with | .ok f=>Q f s' | .error e=>cameBackBy (model g.prog g.w) A env E' e s')) :
  wpAny (model g.prog g.w) A (pyIter (.ref r)) (fun it s₂=>codeAny (model g.prog g.w) A (.forLoop (.Name x p) it pb [] env) (fun r s'=>match r with | .ok f=>Q f s' | .error e=>cameBackBy (model g.prog g.w) A env E' e s') s₂) E' s1:=by
 refine wpAny_pyIter_range hr (small_one (ln 0x1041f1c0053e40b3c4011c601500111 rfl hb.1 neg_abs) (ln 0x1041f0c3e4000b3c4011c60100111 rfl hb.1 Int.le_natAbs) (ln 0x1041f1c0053e40b3c4011c601500111 rfl hb.2 neg_abs) (ln 0x1041f0c3e4000b3c4011c60100111 rfl hb.2 Int.le_natAbs)) ?_
 have I1:=I.grow k1
 have go1:Go (L::Fc) Z s Z s1:=⟨.refl _,.of_keeps k1,sm⟩
 have L1:=LR.go go1 I1 I.zin
 have ha:=size_none s1.heap
 have ho:(s1.heap.push { cls:=.type "range_iterator",data:=.fields #[rawInt lo,rawInt (Builtin.Range.rangeSize lo hi' 1),rawInt 1] }).get? s1.heap.objs.size=some { cls:=.type "range_iterator",data:=.fields #[rawInt lo,rawInt (Builtin.Range.rangeSize lo hi' 1),rawInt 1] }:=Heap.get?_push_size _ rfl
 obtain ⟨go2,I2⟩:=Go.grown (t:=s1.toks) I1 (keeps_push _ _) ha ho
 have L2:=L1.go go2 I2 I1.zin
 have zn:=(I1.hNone ha).2.1
 have hB:g.B.get? s1.heap.objs.size=none:=by
  cases q:g.B.get? s1.heap.objs.size with
  | none=>rfl
  | some o=>have:=I1.base _ _ q;rw [zn] at this;exact this.symm
 refine codeAny_mono (for_run (take_name hi hk) Sb (turn_range D.handled hB) PRange.st PRange.pf (fun b hb=>?_) D V0 O B0 w ?_ ((go.trans go1.tail).trans go2.tail) I2 L2) fun r s' q=>hQ r s' (by cases r<;>exact q)
 ·subst hb
  cases q:Z0 s1.heap.objs.size with
  | none=>rfl
  | some o=>have:=go.ext _ _ q;rw [zn] at this;exact this.symm
 ·refine ⟨lo,_,put_at,?_⟩
  unfold vints rangeL
  rw [rangeSize_one,List.map_map]
  rw [clip_nat]
  rfl
theorem sndS_forR1 (G:GlobOk g) {x y:Str} {k:NameKind} {i:Nat} {p p1 p2 pos:Pos} {pu:PySem.Expr} {u:E} {pb:List Stmt} {b:List S} (hm:(y,NameKind.globalImplicit)∈nm) (hj:(y,Value.type "range")∈BT) (hi:nm[i]?=some (x,k)) (hk:k=.local∨k=.cell) (Su:Snd g nm pu u) (Sb:SndSs g nm pb b)
  (hst:∀ env,starEach [pu] env=[(false,eval pu env)]) (hs:∀ env x,foldedSetIterable (.Call (.Name y p1) [pu] [] p2) env x=pure x) :
  SndS g nm (.For (.Name x p) (.Call (.Name y p1) [pu] [] p2) pb [] pos) (.forR i (.int 0) u b):=by
 intro n A L Fc env m Z0 s0 s Z H N R X D V O B0 w go I LR
 cases n with
 | zero=>exact w.elim
 | succ n=>
  refine wpAny_For ?_ (hs env)
  show wpAny _ _ (eval (.Name y p1) env >>= fun fv=>callWith p2 fv [] (backTo p2 (starEach [pu] env)) []) _ _ _
  refine wpAny_bind (blt_any G hm hj V I ?_)
  rw [one_star hst]
  refine callWith_of (P:=fun u0=>True) rfl (fun u0 u0=>⟨.machine,.inr (.inl rfl),.now⟩) (evalArgs_all rfl (spliced_cons (Su.stm D V w I LR go fun y2 v2 s2 Z2 H2 go2 I2 L2 u0 vr w2=>?_)))
  refine spliced_nil ⟨trivial,?_⟩
  cases v2 with
  | int c=>
   simp only [VR] at vr
   obtain ⟨t,rfl⟩:=vr
   refine call_range_1 ?_
   exact forR_any hi hk Sb D.pred V O B0 ⟨w2.1,w2.2.1⟩ w2.2.2 go2 I2 L2 (keeps_push _ _) ⟨rfl,rfl,rfl⟩ (Heap.get?_push_size _ rfl) fun r s' q=>(by cases r with | ok f=>exact q | error e=>exact q.elim)
  | _=>exact w2.elim
theorem sndS_forR2 (G:GlobOk g) {x y:Str} {k:NameKind} {i:Nat} {p p1 p2 pos:Pos} {pl pu:PySem.Expr} {l u:E} {pb:List Stmt} {b:List S} (hm:(y,NameKind.globalImplicit)∈nm) (hj:(y,Value.type "range")∈BT) (hi:nm[i]?=some (x,k)) (hk:k=.local∨k=.cell) (Sl:Snd g nm pl l) (Su:Snd g nm pu u) (Sb:SndSs g nm pb b)
  (hst:∀ env,starEach [pl,pu] env=[(false,eval pl env),(false,eval pu env)]) (hs:∀ env x,foldedSetIterable (.Call (.Name y p1) [pl,pu] [] p2) env x=pure x) :
  SndS g nm (.For (.Name x p) (.Call (.Name y p1) [pl,pu] [] p2) pb [] pos) (.forR i l u b):=by
 intro n A L Fc env m Z0 s0 s Z H N R X D V O B0 w go I LR
 cases n with
 | zero=>exact w.elim
 | succ n=>
  refine wpAny_For ?_ (hs env)
  show wpAny _ _ (eval (.Name y p1) env >>= fun fv=>callWith p2 fv [] (backTo p2 (starEach [pl,pu] env)) []) _ _ _
  refine wpAny_bind (blt_any G hm hj V I ?_)
  rw [hst]
  refine callWith_of (P:=fun u0=>True) rfl (fun u0 u0=>(in_EA .machine (.inr (.inl rfl)) .now)) (evalArgs_all rfl (spliced_cons (Sl.stm D V w I LR go fun y1 v1 s1 Z1 H1 go1 I1 L1 u0 vr1 w1=>?_)))
  refine spliced_cons (Su.stm D V w1 I1 L1 go1 fun y2 v2 s2 Z2 H2 go2 I2 L2 u0 vr w2=>?_)
  refine spliced_nil ⟨trivial,?_⟩
  refine el_EEAA (i2_el w2) fun i0 j0 rf2 rf3 w2=>?_;subst rf2;subst rf3
  ·simp only [VR] at vr1 vr
   obtain ⟨t1,rfl⟩:=vr1
   obtain ⟨t,rfl⟩:=vr
   refine call_range_2 ?_
   exact forR_any hi hk Sb D.pred V O B0 ⟨w2.1,w2.2.1⟩ w2.2.2 go2 I2 L2 (keeps_push _ _) (in_AA rfl rfl rfl) (Heap.get?_push_size _ rfl) fun r s' q=>(by cases r with | ok f=>exact q | error e=>exact q.elim)
noncomputable def takeE (i j:Nat) (v:V) (m:Loc) (N:Loc→Prop):Prop:=match v with
 | .tup [u,w]=>N ((m.set i (some u)).set j (some w))
 | _=>False
theorem take_two {x y:Str} {k k2:NameKind} {i j:Nat} {p q pos:Pos} {x1:Nat} (hi:nm[i]?=some (x,k)) (hk:k=.local∨k=.cell) (hi2:nm[j]?=some (y,k2)) (hk2:k2=.local∨k2=.cell):TakeOk g nm (.Tuple [.Name x p,.Name y q] x1 pos) (takeE i j):=by
 intro A L Fc env m s₀ s Z₀ Z H v y N R E hh V O B0 w I LR go vr h
 unfold takeE at w
 split at w
 ·exact take_tuple (.cons hi hk (.cons hi2 hk2 .nil)) hh V O B0 (N:=N) (by unfold takeIt;simp only [setEach];exact w) I LR go vr h
 ·exact w.elim
theorem sndS_forE (G:GlobOk g) {x y z:Str} {k k2:NameKind} {i j:Nat} {p q p1 p2 p3 pos:Pos} {x1:Nat} {pe:PySem.Expr} {e:E} {pb:List Stmt} {b:List S} (hm:(z,NameKind.globalImplicit)∈nm) (hj:(z,Value.type "enumerate")∈BT) (hi:nm[i]?=some (x,k)) (hk:k=.local∨k=.cell) (hi2:nm[j]?=some (y,k2)) (hk2:k2=.local∨k2=.cell)
  (Se:Snd g nm pe e) (Sb:SndSs g nm pb b)
  (hst:∀ env,starEach [pe] env=[(false,eval pe env)]) (hs:∀ env x,foldedSetIterable (.Call (.Name z p1) [pe] [] p2) env x=pure x) :
  SndS g nm (.For (.Tuple [.Name x p,.Name y q] x1 p3) (.Call (.Name z p1) [pe] [] p2) pb [] pos) (.forE i j e b):=by
 intro n A L Fc env m Z0 s0 s Z H N R X D V O B0 w go I LR
 cases n with
 | zero=>exact w.elim
 | succ n=>
  refine wpAny_For ?_ (hs env)
  show wpAny _ _ (eval (.Name z p1) env >>= fun fv=>callWith p2 fv [] (backTo p2 (starEach [pe] env)) []) _ _ _
  refine wpAny_bind (blt_any G hm hj V I ?_)
  rw [one_star hst]
  refine callWith_of (P:=fun u0=>True) rfl (fun u0 u0=>(in_EA .machine (.inr (.inl rfl)) .now)) (evalArgs_all rfl (spliced_cons (Se.stm D V w I LR go fun y2 v2 s2 Z2 H2 go2 I2 L2 u0 vr w2=>?_)))
  refine spliced_nil ⟨trivial,?_⟩
  refine el_EA (lstW_el w2) fun xs rf1 w2=>?_;subst rf1
  ·skip
   simp only [VR] at vr
   refine el_EEEAAA vr fun l c ys rf3 e1 e2 e3=>?_;subst rf3
   refine call_enumerate_1 (I2.zin _ _ e1) fun h' he hit hz hkp=>?_
   refine wpAny_pyIter_enum he ?_
   have nI:=size_none s2.heap
   have nE:s2.heap.get? (s2.heap.objs.size+1)=none:=get_ge (Nat.le_succ _)
   refine el_EAA (id hit) fun o f1 f2 f3=>?_
   have hne:s2.heap.objs.size+1≠s2.heap.objs.size:=Nat.succ_ne_self _
   have zI:=(I2.hNone nI).2.1
   have zE:=(I2.hNone nE).2.1
   have zE':put Z2 s2.heap.objs.size o (s2.heap.objs.size+1)=none:=by rw [put_ne hne];exact zE
   have ex4:Ext Z2 (put (put Z2 s2.heap.objs.size o) (s2.heap.objs.size+1) (enumObj s2.heap.objs.size 0 .none)):=(Ext.put zI).trans (Ext.put zE')
   have I4:Inv g.prog g.w g.B (L::Fc) (put (put Z2 s2.heap.objs.size o) (s2.heap.objs.size+1) (enumObj s2.heap.objs.size 0 .none)) H2 h':=by
    refine I2.swap (Ch:=fun u0=>False) ⟨fun u0 q=>q.elim,fun u0 q=>q.elim⟩ (fun b oo u0 e=>ex4 b oo e) (fun b oo e=>?_) fun b x u0 e=>hkp b x e
    by_cases q:b=s2.heap.objs.size+1
    ·rw [q,put_at] at e;cases e;rw [q];exact ⟨he,.inr nE⟩
    ·rw [put_ne q] at e
     by_cases q2:b=s2.heap.objs.size
     ·rw [q2,put_at] at e;cases e;rw [q2];exact ⟨f1,.inr nI⟩
     ·rw [put_ne q2] at e;exact ⟨hkp _ _ (I2.zin _ _ e),.inl (by rw [e];simp)⟩
   have go4:Go (L::Fc) Z2 s2 (put (put Z2 s2.heap.objs.size o) (s2.heap.objs.size+1) (enumObj s2.heap.objs.size 0 .none)) { s2 with heap:=h' }:=⟨ex4,.of_keeps hkp,(in_AA rfl rfl rfl)⟩
   have L4:=L2.go go4 I4 I2.zin
   have bn:∀ b,Z2 b=none→g.B.get? b=none:=fun b e=>by
    cases q:g.B.get? b with
    | none=>rfl
    | some o=>have:=I2.base _ _ q;rw [e] at this;exact this.symm
   have z0:∀ b,Z2 b=none→Z0 b=none:=fun b e=>by
    cases q:Z0 b with
    | none=>rfl
    | some o=>have:=go2.ext _ _ q;rw [e] at this;exact this.symm
   have hmi:(xs.mapIdx fun p v=>Mine.V.tup [.int ((p:Nat):Int),v])=pairsFrom 0 xs:=by rw [pairsFrom_map];simp
   have w2:loopW _ (xs.mapIdx fun p v=>Mine.V.tup [.int ((p:Nat):Int),v]) m N H2:=w2
   rw [hmi] at w2
   have w3:loopW (fun v m' N' H'=>takeE i j v m' fun m''=>wSs g n b m'' N' R (fun u0 u0=>False) H') (pairsFrom 0 xs) m N H2:=by
    refine Eq.mp ?_ w2
    congr 1
   refine codeAny_mono (for_run (take_two hi hk hi2 hk2) Sb (turn_enum D.handled (bn _ zI) (bn _ zE) hne) PEnum.st PEnum.pf (fun b hb=>?_) D.pred V O B0 w3 ?_ (go2.trans go4.tail) I4 L4) fun r s' q=>(by cases r with | ok f=>exact q | error e=>exact q.elim)
   ·rcases hb with rfl | rfl
    ·exact z0 _ zE
    ·exact z0 _ zI
   ·exact (in_EE 0 .none ⟨o,l,ys,c,xs,put_at,by exact (put_ne (Ne.symm (by assumption))).trans put_at,f2,f3,ex4 _ _ e1,VRs.mono ex4.seq _ _ (by trivial),rfl⟩)
end
end Mine
namespace Mine
noncomputable def ilt:List Int→List Int→Bool
 | [],[]=>false
 | [],_::_=>true
 | _::_,[]=>false
 | a::x,b::y=>if (a==b)=true then ilt x y else decide (a < b)
theorem ints_drop:∀ {vs:List Value} {ns:List Int} {i:Nat},IntsAre vs ns→(vs[i]?=none∧ns.drop i=[])∨∃ z t,vs[i]?=some (.int z t)∧ns.drop i=z::ns.drop (i+1)
 | _,_,_,.nil=>.inl ⟨by rfl,by simp⟩
 | _,_,0,.cons z t h=>.inr (in_EEA z t (by rfl) (by rfl))
 | _,_,i+1,.cons z t h=>by
  rcases ints_drop (i:=i) h with ⟨h1,h2⟩ | ⟨z',t',h1,h2⟩
  ·exact .inl ⟨by trivial,by trivial⟩
  ·exact .inr (in_EEA z' t' (by simpa using h1) (by trivial))
end Mine
namespace Mine
open PySem.MeetsSeq PySem.MeetsSeq2 PySem.MeetsSeq3
theorem lt_loop (l b:Addr) (items items2:Array Value) (n n2:Nat) (xs ys:List Int) (hx:IntsAre items.toList xs) (hy:IntsAre items2.toList ys) (k:Nat) :
  ∀ i:Nat,i≤items.size→i≤items2.size→items.size - i=k→Meets (Builtin.«list.__eq__.loop» ⟨[.ref l,.ref b,rawInt i,rawInt 0],[]⟩)
   (fun u0 R s=>s.heap.get? l=some { cls:=.type "list",dict:=none,data:=.seq items n,slots:=#[] }∧s.heap.get? b=some { cls:=.type "list",dict:=none,data:=.seq items2 n2,slots:=#[] } ∧
    R (.ok (.ret (.bool (ilt (xs.drop i) (ys.drop i))))) s):=by
 induction k with
 | zero=>
  intro i hi hi2 hk prog w A R s h
  obtain ⟨hp,g,d,tk,os⟩:=s;obtain ⟨hl,hb,h⟩:=h
  wp_walk using AutoSeq1.wpAny_loadPart' hl,AutoSeq1.wpAny_loadPart' hb
  have e1:items[((i:Nat):Int).toNat]?=none:=by simp;exact ln 0x1f841f1b11212b02012b2191101130 rfl hk (Nat.sub_add_cancel hi)
  have dx:xs.drop i=[]:=by
   rcases ints_drop (i:=i) hx with ⟨_,q⟩ | ⟨z,t,q,_⟩
   ·exact q
   ·have:items.toList[i]?=none:=by simp;exact ln 0x1f841f1b11212b02012b2191101130 rfl hk (Nat.sub_add_cancel hi)
    rw [this] at q;cases q
  rw [dx] at h
  rw [e1]
  wp_walk using AutoSeq1.wpAny_loadPart' hl,AutoSeq1.wpAny_loadPart' hb
  show R (.ok (.ret (.bool (decide (items.size < items2.size))))) _
  rcases ints_drop (i:=i) hy with ⟨q1,q2⟩ | ⟨z,t,q1,q2⟩
  ·rw [q2] at h
   have:¬ items.size < items2.size:=by simp at q1;exact ln 0x1041f8b01211b21111b1101130 rfl hi q1
   simpa [ilt,this] using h
  ·rw [q2] at h
   have:items.size < items2.size:=by
    have:=(List.getElem?_eq_some_iff.mp q1).1
    simp at this;exact ln 0x7c1841f0b31212b02010b31112b2191101140 rfl hk this (Nat.sub_add_cancel hi)
   simpa [ilt,this] using h
 | succ k ih=>
  intro i hi hi2 hk prog w A R s h
  obtain ⟨hp,g,d,tk,os⟩:=s;obtain ⟨hl,hb,h⟩:=h
  wp_walk using AutoSeq1.wpAny_loadPart' hl,AutoSeq1.wpAny_loadPart' hb
  have hlt:i < items.size:=ln 0x217c1f0b21112b91231012b2191101140 rfl hk (Nat.sub_add_cancel hi)
  rcases ints_drop (i:=i) hx with ⟨q,_⟩ | ⟨z,t,p1,p2⟩
  ·simp at q;exact False.elim (ln 0x41f0b01111b1101020 rfl hlt q)
  have e1:items[((i:Nat):Int).toNat]?=some (.int z t):=by simpa using p1
  rw [e1]
  rw [p2] at h
  rcases ints_drop (i:=i) hy with ⟨q1,q2⟩ | ⟨z2,t2,q1,q2⟩
  ·have e2:items2[((i:Nat):Int).toNat]?=none:=by simpa using q1
   rw [q2] at h
   rw [e2]
   wp_walk using AutoSeq1.wpAny_loadPart' hl,AutoSeq1.wpAny_loadPart' hb
   show R (.ok (.ret (.bool (decide (items.size < items2.size))))) _
   have:¬ items.size < items2.size:=by simp at q1;exact ln 0x1041f8b01210b21111b1101130 rfl hlt q1
   simpa [ilt,this] using h
  ·have e2:items2[((i:Nat):Int).toNat]?=some (.int z2 t2):=by simpa using q1
   have hlt2:i < items2.size:=by have:=(List.getElem?_eq_some_iff.mp q1).1;simpa using this
   rw [q2] at h
   rw [e2]
   have hc:((i:Int)+1)=((i+1:Nat):Int):=by push_cast;rfl
   refine wpAny_bind (EqGives.int z z2 t t2 prog w _ _ _ _ ?_)
   cases hb':z==z2 with
   | true=>
    rw [ilt,if_pos hb'] at h
    wp_walk
    rw [hc]
    exact ⟨plainId_quiet plain_eq_loop _,codeAny_builtin entry_eq_loop (by
     rw [Around.under_plainId plain_eq_loop _]
     exact ih (i+1) (ln 0x41f1b11912010b1101120 rfl hlt) (ln 0x41f1b11912010b1101120 rfl hlt2) (ln 0x85f8417e17c1f2b41012b91241312b21911312b2199121101150 rfl hk (Nat.sub_add_cancel hi) (Nat.sub_add_cancel (ln 0x41f1b11912010b1101120 rfl hlt))) prog w A R _ ⟨hl,hb,by simpa using h⟩)⟩
   | false=>
    rw [ilt,if_neg (by rw [hb'];decide)] at h
    wp_walk using AutoSeq1.wpAny_loadPart' hl,AutoSeq1.wpAny_loadPart' hb
    rw [e1,e2]
    refine wpAny_bind (wpAny_lt_int ?_)
    wp_walk
    simpa using h
theorem list_lt (l b:Addr) (items items2:Array Value) (n n2:Nat) (xs ys:List Int) (hx:IntsAre items.toList xs) (hy:IntsAre items2.toList ys) :
  Meets (Builtin.«list.__lt__» ⟨[.ref l,.ref b],[]⟩)
   (fun u0 R s=>s.heap.get? l=some { cls:=.type "list",dict:=none,data:=.seq items n,slots:=#[] }∧s.heap.get? b=some { cls:=.type "list",dict:=none,data:=.seq items2 n2,slots:=#[] } ∧
    R (.ok (.ret (.bool (ilt xs ys)))) s):=by
 intro prog w A R s h
 obtain ⟨hp,g,d,tk,os⟩:=s;obtain ⟨hl,hb,h⟩:=h
 have f3:=AutoSeq1.sub_list_list
 wp_walk using AutoSeq1.wpAny_loadPart' hl,AutoSeq1.wpAny_loadPart' hb
 exact ⟨plainId_quiet plain_eq_loop _,codeAny_builtin entry_eq_loop (by
  rw [Around.under_plainId plain_eq_loop _]
  exact lt_loop l b items items2 n n2 xs ys hx hy _ 0 (Nat.zero_le _) (Nat.zero_le _) rfl prog w A R _ ⟨hl,hb,by simpa using h⟩)⟩
end Mine
namespace Mine
section
variable {prog:Program} {w:World} {A:Around} {E:Value→Shared→Prop} {s:Shared}
theorem oneLt_list {l b:Addr} {items items2:Array Value} {n n2:Nat} {xs ys:List Int} {Q:Bool→Shared→Prop} (hu:A.units < cLine) (hl:s.heap.get? l=some (PySem.W.listOf items n)) (hb:s.heap.get? b=some (PySem.W.listOf items2 n2)) (hx:IntsAre items.toList xs) (hy:IntsAre items2.toList ys)
  (h:Q (ilt xs ys) s):wpAny (model prog w) A (keyLt' oneType' (.ref l) (.ref b)) Q E s:=by
 rw [keyLt'_oneType,oneLt'_eq]
 simp only [if_true]
 refine wpAny_bind (wpAny_cRoomFor hu ?_)
 have hT:s.TypeIs (.ref l) "list":=(in_EA _ hl rfl)
 refine wpAny_bind (wpAny_callSpecialIfBound?_slot hT PySem.F.slot_list_lt (call_meets PySem.F.slot_list_lt hT PySem.F.entry_list_lt (PySem.F.args_list_lt_2 _ _) (list_lt l b items items2 n n2 xs ys hx hy) (in_AA hl hb ?_)))
 exact wpAny_truthy_bool h
end
end Mine
namespace Mine
noncomputable def KOk (n:Nat) {α:Type} (P:α→Prop):KasT α→Prop
 | .ret a=>P a
 | .ask i j k=>i < n∧j < n∧∀ b,KOk n P (k b)
noncomputable def kRun (lt:Nat→Nat→Bool) {α:Type}:KasT α→α
 | .ret a=>a
 | .ask i j k=>kRun lt (k (lt i j))
theorem KOk.run {n:Nat} {α:Type} {P:α→Prop} {lt:Nat→Nat→Bool}:∀ {t:KasT α},KOk n P t→P (kRun lt t)
 | .ret _=>@fun h=>h
 | .ask i j k=>@fun h=>KOk.run (t:=k (lt i j)) (h.2.2 _)
theorem KOk.bind {n:Nat} {α β:Type} {P:α→Prop} {P':β→Prop} {f:α→KasT β} (hf:∀ a,P a→KOk n P' (f a)):∀ {t:KasT α},KOk n P t→KOk n P' (t.bind f)
 | .ret a=>@fun h=>hf a h
 | .ask _ _ _=>@fun h=>(in_AA h.1 h.2.1 (fun b=>KOk.bind hf (h.2.2 b)))
theorem KOk.wp {n:Nat} {α:Type} {P:α→Prop} {lt:Nat→Nat→Bool} {cmp:Nat→Nat→(Bool→Shared→Prop)→Shared→Prop} (hc:∀ i j,i < n→j < n→∀ C s,C (lt i j) s→cmp i j C s) {Q:α→Shared→Prop} {s:Shared} :
  ∀ {t:KasT α},KOk n P t→Q (kRun lt t) s→t.kasWp cmp Q s
 | .ret _=>@fun u0 h=>h
 | .ask i j k=>@fun o h=>hc i j o.1 o.2.1 _ _ (KOk.wp hc (o.2.2 _) h)
theorem KOk.wpS {n:Nat} {α:Type} {P:α→Prop} {lt:Nat→Nat→Bool} {cmp:Nat→Nat→(Bool→Shared→Prop)→Shared→Prop} {s:Shared} (hc:∀ i j,i < n→j < n→∀ C:Bool→Shared→Prop,C (lt i j) s→cmp i j C s) {Q:α→Shared→Prop} :
  ∀ {t:KasT α},KOk n P t→Q (kRun lt t) s→t.kasWp cmp Q s
 | .ret _=>@fun u0 h=>h
 | .ask i j k=>@fun o h=>hc i j o.1 o.2.1 _ (KOk.wpS hc (o.2.2 _) h)
structure Good (n:Nat) (p:Array Nat):Prop where
 sz:p.size=n
 lt:∀ x∈p,x < n
theorem Good.perm {n:Nat} {p q:Array Nat} (g:Good n p) (h:q.Perm p):Good n q:=⟨by rw [← g.sz];exact h.size_eq,fun x hx=>g.lt x (h.mem_iff.mp hx)⟩
theorem Good.get {n:Nat} {p:Array Nat} (g:Good n p) (h0:0 < n) (i:Nat):p.getD i 0 < n:=by
 unfold Array.getD
 split
 ·exact g.lt _ (Array.getElem_mem _)
 ·exact h0
theorem Good.rev {n:Nat} {p:Array Nat} (g:Good n p) (i j:Nat):Good n (kas_rev p i j):=g.perm (mirror_perm ..)
theorem Good.bub {n:Nat} {p:Array Nat} (g:Good n p) (i j:Nat):Good n (bubble p i j):=g.perm (bubble_perm ..)
theorem ok_asc {N:Nat} {p:Array Nat} (g:Good N p) (h0:0 < N):∀ f n,KOk N (fun u0=>True) (kas_asc p f n)
 | 0=>@fun u0=>trivial
 | f+1=>@fun n=>(in_AA (g.get h0 _) (g.get h0 _) (fun b=>by
  cases b with
  | false=>exact ok_asc g h0 f (n+1)
  | true=>exact trivial))
theorem ok_desc {N:Nat} (h0:0 < N):∀ f (p:Array Nat) n q,Good N p→KOk N (fun r=>Good N r.1) (kas_desc f p n q)
 | 0=>@fun p n q g=>g
 | f+1=>@fun p n q g=>(in_AA (g.get h0 _) (g.get h0 _) (fun b=>by
  cases b with
  | true=>
   show KOk N _ (if true=true then _ else _)
   rw [if_pos rfl]
   split
   ·exact ok_desc h0 f _ _ _ (g.rev _ _)
   ·exact ok_desc h0 f _ _ _ g
  | false=>
   show KOk N _ (if false=true then _ else _)
   rw [if_neg (by exact Bool.noConfusion)]
   refine (in_AA (g.get h0 _) (g.get h0 _) (fun c=>?_))
   cases c with
   | true=>exact g
   | false=>exact ok_desc h0 f _ _ _ g))
theorem ok_tail3 {N n nrem:Nat} {p:Array Nat} (g:Good N p) (h0:0 < N):KOk N (fun r=>Good N r.2) (kas_tail3 n nrem p):=
 KOk.bind (P:=fun u0=>True) (fun m u0=>show KOk N (fun r:Nat × Array Nat=>Good N r.2) (KasT.ret (m,kas_rev p 0 n)) from g.rev 0 n) (ok_asc (g.rev 0 n) h0 _ _)
theorem ok_descPart {N n nrem:Nat} {p:Array Nat} (g:Good N p) (h0:0 < N):KOk N (fun r=>Good N r.2) (kas_descPart n nrem p):=by
 refine KOk.bind (fun r hr=>?_) (ok_desc h0 _ _ _ _ g)
 split
 ·exact ok_tail3 (hr.rev _ _) h0
 ·exact ok_tail3 hr h0
theorem ok_count {N nrem:Nat} {p:Array Nat} (g:Good N p) (h0:0 < N):KOk N (fun r=>Good N r.2) (kas_count nrem p):=by
 refine KOk.bind (fun n u0=>?_) (ok_asc g h0 _ _)
 split
 ·exact g
 ·split
  ·refine (in_AA (g.get h0 _) (g.get h0 _) (fun c=>?_))
   cases c with
   | true=>exact g
   | false=>exact ok_descPart (g.rev _ _) h0
  ·exact ok_descPart g h0
theorem ok_place {N:Nat} {p:Array Nat} (g:Good N p) (h0:0 < N) (k:Nat):∀ f l r,KOk N (fun u0=>True) (kas_place p k f l r)
 | 0=>@fun u0 u0=>trivial
 | f+1=>@fun l r=>by
  show KOk N _ (if l ≥ r then _ else _)
  split
  ·exact trivial
  ·refine (in_AA (g.get h0 _) (g.get h0 _) (fun c=>?_))
   cases c with
   | true=>exact ok_place g h0 k f _ _
   | false=>exact ok_place g h0 k f _ _
theorem ok_bin {N:Nat} (h0:0 < N):∀ f (p:Array Nat) k,Good N p→KOk N (Good N) (kas_bin f p k)
 | 0=>@fun u0 u0 g=>g
 | f+1=>@fun p k g=>KOk.bind (fun l u0=>ok_bin h0 f _ _ (g.bub _ _)) (ok_place g h0 k k 0 k)
theorem ok_sort {N:Nat} (h0:0 < N):KOk N (Good N) (kas_sort N):=by
 refine KOk.bind (fun r hr=>?_) (ok_count ⟨by simp,fun x hx=>by simpa using hx⟩ h0)
 split
 ·exact ok_bin h0 _ _ _ hr
 ·exact hr
noncomputable def sortPerm (lt:Nat→Nat→Bool) (n:Nat):List Nat:=if n < 2 then List.range n else (kRun lt (kas_sort n)).toList
theorem sortPerm_len (lt:Nat→Nat→Bool) (n:Nat):(sortPerm lt n).length=n:=by
 unfold sortPerm
 split
 ·simp
 ·have:=(ok_sort (N:=n) (Nat.lt_of_lt_of_le (by decide:0 < 2) (Nat.not_lt.mp (by assumption)))).run (lt:=lt);rw [Array.length_toList];exact this.sz
theorem sortPerm_lt (lt:Nat→Nat→Bool) (n:Nat):∀ i∈sortPerm lt n,i < n:=by
 unfold sortPerm
 split
 ·intro i hi;simpa using hi
 ·intro i hi;have:=(ok_sort (N:=n) (Nat.lt_of_lt_of_le (by decide:0 < 2) (Nat.not_lt.mp (by assumption)))).run (lt:=lt);exact this.lt i (by simpa using hi)
section
variable {prog:Program} {w:World} {A:Around} {E:Value→Shared→Prop} {s:Shared}
theorem kind_lists {ks:List Value} {T:String} (hT:∀ v∈ks,s.TypeIs v T) (ht:T≠"tuple") (h2:2≤ks.length) {Q:SortKind→Shared→Prop} (h:Q oneType' s):wpAny (model prog w) A (keyKind' (List.toArray ks)) Q E s:=by
 rw [kat_kind_eq]
 have m1:∀ (l:List Value) (R:List (Option Value)→Shared→Prop),(∀ v∈l,s.TypeIs v T)→R (l.map fun u0=>none) s→wpAny (model prog w) A (l.mapM firstOfTuple') R E s:=by
  intro l
  induction l with
  | nil=>intro R _ hR;exact wpAny_pure hR
  | cons v r ih=>
   intro R hl hR
   rw [List.mapM_cons]
   refine wpAny_bind ?_
   show wpAny _ _ (typeOf v >>= _) _ _ _
   refine wpAny_bind (wpAny_typeOf (hl v (.head _)) ?_)
   rw [if_pos (by simpa using ht)]
   refine wpAny_pure ?_
   exact wpAny_bind (ih _ (fun u hu=>hl u (.tail _ hu)) (wpAny_pure hR))
 have m2:∀ (l:List Value) (R:List Value→Shared→Prop),(∀ v∈l,s.TypeIs v T)→R (l.map fun u0=>Value.type T) s→wpAny (model prog w) A (l.mapM typeOf) R E s:=by
  intro l
  induction l with
  | nil=>intro R _ hR;exact wpAny_pure hR
  | cons v r ih=>
   intro R hl hR
   rw [List.mapM_cons]
   refine wpAny_bind (wpAny_typeOf (hl v (.head _)) ?_)
   exact wpAny_bind (ih _ (fun u hu=>hl u (.tail _ hu)) (wpAny_pure hR))
 refine el_EE (show ∃ v r,ks=v::r from by
  cases ks with
  | nil=>trivial
  | cons v r=>exact (in_EE v r rfl)) fun v r rf2=>?_;subst rf2
 simp only [List.mapM_toArray]
 refine wpAny_bind (wpAny_bind (m1 _ _ hT ?_))
 refine wpAny_pure ?_
 rw [if_neg (by simp),if_neg (by exact Bool.noConfusion)]
 refine wpAny_bind ?_
 rw [oneTypeOnly'_eq]
 simp only [List.mapM_toArray]
 refine wpAny_bind (wpAny_bind (m2 _ _ hT ?_))
 refine wpAny_pure ?_
 have e0:(List.toArray (List.map (fun u0=>Value.type T) (v::r)))[0]?=some (Value.type T):=by rfl
 rw [e0]
 have e1:(List.toArray (List.map (fun u0=>Value.type T) (v::r))).all (·==Value.type T)=true:=by simp
 dsimp only
 rw [if_pos e1]
 exact wpAny_pure (wpAny_pure h)
end
end Mine
namespace Mine
section
variable {prog:Program} {w:World} {A:Around} {E:Value→Shared→Prop}
theorem upd_keeps {h0 h:Heap} {a:Addr} {f:Obj→Obj} (k:Keeps h0 h) (ha:h0.objs.size≤a):Keeps h0 (h.update a f):=fun b o e=>
 (Heap.get?_update_other _ _ (Ne.symm (Nat.ne_of_lt (Nat.lt_of_lt_of_le (Heap.lt_size e) ha)))).trans (k b o e)
theorem push_keeps {h0 h:Heap} {o:Obj} (k:Keeps h0 h):Keeps h0 (h.push o):=fun b o' e=>Heap.get?_push_of_some _ (k b o' e)
noncomputable def sortedBy {α:Type} (d:α) (lt:Nat→Nat→Bool) (b:Bool) (vs:List α):List α:=katRev b ((sortPerm lt vs.length).map fun i=>(katRev b vs).getD i d)
theorem sorted_tail {b:Bool} {st:SortSt} {e e1:Nat} {out ks:List Value} {P:PySem.Fin→Shared→Prop} {a kS:Addr} {s:Shared} (hout:(arrOf st).map (·.2)=List.toArray out) (hz:out.length < 64) (hkz:ks.length < 64) (hf:failedOf st=none)
  (hk:s.heap.get? kS=some (seqObj "list" (List.toArray ks) e)) (ha:s.heap.get? a=some (seqObj "list" #[] e1)) (hne:kS≠a)
  (h:∀ c f f',((s.heap.update kS f).update a f').get? a=some (seqObj "list" (List.toArray (katRev b out)) c)→P (.done (.ret .none)) { s with heap:=(s.heap.update kS f).update a f' }):wpAny (model prog w) A (ksk_tail a b e1 (.ref kS) st) P E s:=by
 unfold ksk_tail
 try dsimp only
 rw [hout,kat_outs]
 refine wpAny_bind (listUpdate_at hk rfl ?_ (by rw [List.size_toArray,sizeLine_eq];exact ln 0x41f1b010000003010b00000040301110 rfl hkz) (Nat.zero_le _))
 refine wpAny_bind (wpAny_letGo ?_)
 have ha':(s.heap.update kS (Obj.mapSeq fun u0=>(#[]:Array Value))).get? a=some (seqObj "list" #[] e1):=(Heap.get?_update_other _ _ hne).trans ha
 refine wpAny_bind (seqEpoch_at ha' rfl ?_)
 refine wpAny_bind (listUpdate_at ha' rfl ?_ (Nat.zero_le _) (Nat.le_trans (Nat.le_of_eq (by rw [List.size_toArray,kat_len])) (by rw [sizeLine_eq];exact ln 0x41f1b912010000003010b00000040301110 rfl hz:out.length≤sizeLine+1)))
 rw [hf]
 simp only [bne_self_eq_false,Bool.false_eq_true,if_false]
 exact wpAny_pure (h _ _ _ (get?_update_seq ha' fun u0=>List.toArray (katRev b out)))
theorem sorted_end {b:Bool} {e e1:Nat} {ks vs:List Value} {P:PySem.Fin→Shared→Prop} {a kS:Addr} {s:Shared} {lt:Nat→Nat→Bool} (hl:ks.length=vs.length) (h64:vs.length < 64)
  (hk:s.heap.get? kS=some (seqObj "list" (List.toArray ks) e)) (ha:s.heap.get? a=some (seqObj "list" #[] e1)) (hne:kS≠a)
  (kind:2≤vs.length→∀ Q:SortKind→Shared→Prop,Q oneType' s→wpAny (model prog w) A (keyKind' (List.toArray ks)) Q (fun u0 u0=>False) s)
  (cmp:∀ i j,i < vs.length→j < vs.length→∀ C:Bool→Shared→Prop,C (lt i j) s→wpAny (model prog w) A (keyLt' oneType' ((katRev b ks).getD i Value.none) ((katRev b ks).getD j Value.none)) C (fun u0 u0=>False) s)
  (h:∀ c f f',((s.heap.update kS f).update a f').get? a=some (seqObj "list" (List.toArray (sortedBy Value.none lt b vs)) c)→P (.done (.ret .none)) { s with heap:=(s.heap.update kS f).update a f' }) :
  wpAny (model prog w) A (ksk_end a b vs.toArray e1 (.ref kS) (List.toArray ks)) P E s:=by
 have step:∀ t:Sem PySem.Fin,wpAny (model prog w) A t P E s→wpAny (model prog w) A (if b=true then (do let _ ← rule "list.sort.reverse";t) else t) P E s:=by
  intro t ht
  split
  ·trivial
  ·exact ht
 have hlr:(katRev b ks).length=(katRev b vs).length:=by rw [kat_len,kat_len,hl]
 unfold ksk_end
 try dsimp only
 refine step _ ?_
 by_cases h2:2≤vs.length
 ·have hn2:¬ vs.toArray.size < 2:=by rw [List.size_toArray];exact ln 0x41f8b22011b0122110 rfl h2
  rw [if_neg hn2,if_neg hn2]
  refine wpAny_bind (wpAny_mono (kind h2 (fun κ s'=>κ=oneType'∧s'=s) ⟨rfl,rfl⟩) (fun κ s0 hk0=>?_) fun u0 u0 x=>x.elim)
  obtain ⟨rfl,rfl⟩:=hk0
  rw [kat_pairs b hl]
  have good:=ok_sort (N:=(katRev b vs).length) (by rw [kat_len];exact ln 0x41f0b01021b0122110 rfl h2)
  have hk':(kas_sort (katRev b vs).length).kasWp (kas_ask prog w A oneType' (katRev b ks)) (fun p s''=>p=kRun lt (kas_sort (katRev b vs).length)∧s''=s0) s0:=
   KOk.wpS (lt:=lt) (fun i j hi hj C hC=>cmp i j (by rw [kat_len] at hi;exact hi) (by rw [kat_len] at hj;exact hj) C hC) good ⟨rfl,rfl⟩
  refine wpAny_bind (wpAny_mono (kat_run (Q:=fun st' s'=>∃ p:Array Nat,p=kRun lt (kas_sort (katRev b vs).length)∧s'=s0∧p.size=(katRev b vs).length∧arrOf st'=p.map (kas_item ((List.toArray (katRev b ks)).zip (List.toArray (katRev b vs))))∧failedOf st'=none)
   hlr (by rw [kat_len];exact h2) (by rw [kat_len];exact h64) (fun p' st' s' a1 a2 a3 a4=>(in_EAAA p' a4.1 a4.2 a1 ⟨a2,a3⟩)) hk') ?_ fun u0 u0 x=>x)
  rintro ⟨⟨⟩,st'⟩ s' ⟨p,rfl,rfl,hp,har,hf⟩
  try dsimp only
  refine sorted_tail (kat_snds hlr har) (by rw [List.length_map,Array.length_toList,hp,kat_len];exact h64) (ln 0x1841f0b000000403112b01110b00000040301120 rfl hl h64) hf hk ha hne fun c f f' q=>h c f f' ?_
  rw [q]
  unfold sortedBy sortPerm
  rw [if_neg (by trivial),kat_len]
 ·have hn2:vs.toArray.size < 2:=by rw [List.size_toArray];exact ln 0x41f0b22019b0122110 rfl h2
  rw [if_pos hn2,if_pos hn2]
  refine wpAny_bind (wpAny_pure ?_)
  rw [kat_pairs b hl]
  rw [StateT.run_pure]
  refine wpAny_bind (wpAny_pure ?_)
  try dsimp only
  refine sorted_tail (out:=katRev b vs) ?_ (by rw [kat_len];exact h64) (ln 0x1841f0b000000403112b01110b00000040301120 rfl hl h64) rfl hk ha hne fun c f f' q=>h c f f' ?_
  ·apply Array.toList_inj.mp
   show (((List.toArray (katRev b ks)).zip (List.toArray (katRev b vs))).map (·.2)).toList=_
   rw [Array.toList_map,ksk_zip]
   show List.map Prod.snd (List.zip (katRev b ks) (katRev b vs))=_
   rw [List.map_snd_zip (ln 0x7c1f1b01112b1101120 rfl hlr)]
  ·rw [q]
   unfold sortedBy sortPerm
   rw [if_pos (by trivial)]
   congr 4
   refine List.ext_getElem? fun i=>?_
   rw [List.getElem?_map]
   have hl3:=kat_len b vs
   by_cases hi:i < vs.length
   ·rw [List.getElem?_range hi]
    simp [List.getD,hl3,hi]
   ·rw [List.getElem?_eq_none (by exact ln 0x1841f1b01212b11218b1101130 rfl hl3 hi),List.getElem?_eq_none (by simp;exact Nat.not_lt.mp hi)]
    rfl
theorem sorted_loop {f:Value} {kS D:Addr} {o0:Obj} {s0:Shared} {body:Value→PUnit→Sem (ForInStep PUnit)} (hkS:s0.heap.objs.size≤kS) (hne:kS≠D) (hD:s0.heap.objs.size≤D)
  (hb:∀ x (s:Shared) (ks:List Value) (e:Nat) (k:Value),ks.length < 64→s.heap.get? kS=some (seqObj "list" (List.toArray ks) e)→(wpAny (model prog w) A (call f [x]) (fun r s'=>r=k∧Keeps s.heap s'.heap∧Same s s') (fun u0 u0=>False) s) →
   wpAny (model prog w) A (body x ⟨⟩) (fun r s'=>r=.yield ⟨⟩∧∃ s'' c g,Keeps s.heap s''.heap∧Same s s''∧s'={ s'' with heap:=s''.heap.update kS g }∧s'.heap.get? kS=some (seqObj "list" (List.toArray (ks++[k])) c)) E s) :
  ∀ (r kr ks:List Value) (e:Nat) (s:Shared),r.length=kr.length→(ks++kr).length < 64→s.heap.get? kS=some (seqObj "list" (List.toArray ks) e)→s.heap.get? D=some o0→Keeps s0.heap s.heap→Same s0 s →
   (∀ (i:Nat) (v k:Value) (s:Shared),r[i]?=some v→kr[i]?=some k→Keeps s0.heap s.heap→wpAny (model prog w) A (call f [v]) (fun r s'=>r=k∧Keeps s.heap s'.heap∧Same s s') (fun u0 u0=>False) s) →
   wpAny (model prog w) A (forIn r PUnit.unit body) (fun u0 s'=>∃ e,s'.heap.get? kS=some (seqObj "list" (List.toArray (ks++kr)) e)∧s'.heap.get? D=some o0∧Keeps s0.heap s'.heap∧Same s0 s') E s
 | [],[],ks,e,s,_,_,hk,hd,kp,sm,_=>by
  rw [List.forIn_nil,List.append_nil]
  exact wpAny_pure (in_EAAA e hk hd kp sm)
 | [],_::_,_,_,_,hl,_,_,_,_,_,_=>by trivial
 | _::_,[],_,_,_,hl,_,_,_,_,_,_=>by trivial
 | x::r,k::kr,ks,e,s,hl,hz,hk,hd,kp,sm,turn=>by
  rw [List.forIn_cons]
  refine wpAny_bind (wpAny_mono (hb x s ks e k (by simp at hz;exact ln 0x41f0b000000403010b00000040399121101120 rfl hz) hk (turn 0 x k s rfl rfl kp)) (fun q s' hq=>?_) fun u0 u0 x=>x)
  obtain ⟨rfl,s'',c,g,k1,sm1,rfl,hk'⟩:=hq
  show wpAny (model prog w) A (forIn r PUnit.unit body) _ E _
  have:=sorted_loop (s0:=s0) (o0:=o0) hkS hne hD hb r kr (ks++[k]) c { s'' with heap:=s''.heap.update kS g } (by exact Nat.succ.inj hl) (by simpa using hz) hk' ((Heap.get?_update_other _ _ hne).trans (k1 _ _ hd)) (upd_keeps (kp.trans k1) hkS) (sm.trans (sm1.trans (in_AA rfl rfl rfl))) fun i v k' s3 h1 h2=>turn (i+1) v k' s3 h1 h2
  simpa using this
theorem sorted_key {l f:Addr} {c0:Nat} {s:Shared} {b:Bool} {vs keys:List Value} {lt:Nat→Nat→Bool} {Q:Value→Shared→Prop} (hl:s.heap.get? l=some (PySem.W.listOf (List.toArray vs) c0)) (h64:vs.length < 64) (hk:keys.length=vs.length)
  (turn:∀ (i:Nat) (v k:Value) (s':Shared),vs[i]?=some v→keys[i]?=some k→Keeps s.heap s'.heap→wpAny (model prog w) A.in1.in1 (call (.ref f) [v]) (fun r s''=>r=k∧Keeps s'.heap s''.heap∧Same s' s'') (fun u0 u0=>False) s')
  (kind:∀ s':Shared,Keeps s.heap s'.heap→2≤vs.length→∀ Q:SortKind→Shared→Prop,Q oneType' s'→wpAny (model prog w) A.in1.in1 (keyKind' (List.toArray keys)) Q (fun u0 u0=>False) s')
  (cmp:∀ i j (s':Shared),Keeps s.heap s'.heap→i < vs.length→j < vs.length→∀ C:Bool→Shared→Prop,C (lt i j) s'→wpAny (model prog w) A.in1.in1 (keyLt' oneType' ((katRev b keys).getD i Value.none) ((katRev b keys).getD j Value.none)) C (fun u0 u0=>False) s')
  (h:∀ D c (s':Shared),Keeps s.heap s'.heap→Same s s'→s.heap.objs.size≤D→s'.heap.get? D=some (seqObj "list" (List.toArray (sortedBy Value.none lt b vs)) c)→Q (.ref D) s') :
  wpAny (model prog w) A (call (.builtin "sorted") [.ref l] [(Str.ofString "key",.ref f),(Str.ofString "reverse",.bool b)]) Q E s:=by
 refine call_function_entry_kw kind_sorted plain_sorted entry_sorted (by unfold argsOk;kernel_rfl) ?_
 unfold Builtin.«sorted»
 refine wpAny_bind (m:=checkCount "sorted" 1 1 _) (wpAny_pure ?_)
 refine wpAny_bind (collect_list (in_EAAE _ hl rfl c0 rfl) ?_ (by rw [sizeLine_eq];exact ln 0x41f1b010000003010b00000040301110 rfl h64))
 refine wpAny_bind (wpAny_newList ?_ (by rw [sizeLine_eq];exact ln 0x41f1b010000003010b00000040301110 rfl h64))
 have hsz:((s.heap.push (seqObj "list" #[] 0)).update s.heap.objs.size (Obj.mapSeq (·++vs.toArray))).objs.size=s.heap.objs.size+1:=by
  rw [Heap.size_update,size_push']
 have hoL:(((s.heap.push (seqObj "list" #[] 0)).update s.heap.objs.size (Obj.mapSeq (·++vs.toArray))).push (seqObj "list" vs.toArray 0)).get? (s.heap.objs.size+1)=some (seqObj "list" vs.toArray 0):=by
  rw [← hsz];exact Heap.get?_push_size _ rfl
 have keep:Keeps s.heap (((s.heap.push (seqObj "list" #[] 0)).update s.heap.objs.size (Obj.mapSeq (·++vs.toArray))).push (seqObj "list" vs.toArray 0)):=push_keeps (upd_keeps (push_keeps (Keeps.refl _)) (Nat.le_refl _))
 have hD:s.heap.objs.size≤s.heap.objs.size+1:=Nat.le_succ _
 show wpAny _ _ _ _ _ { s with heap:=((s.heap.push (seqObj "list" #[] 0)).update s.heap.objs.size (Obj.mapSeq (·++vs.toArray))).push (seqObj "list" vs.toArray 0) }
 rw [hsz]
 generalize hH:((s.heap.push (seqObj "list" #[] 0)).update s.heap.objs.size (Obj.mapSeq (·++vs.toArray))).push (seqObj "list" vs.toArray 0)=H1 at hoL keep
 generalize s.heap.objs.size+1=D at hoL hD
 refine wpAny_bind (wpAny_holding (wpAny_call_entry_kw slot_list_sort (in_EA _ hoL rfl) entry_list_sort ?body (by unfold argsOk;kernel_rfl)))
 rw [ksk_t2]
 unfold ksk_tree
 obtain ⟨e1,ho1⟩:∃ e1,(H1.update D (Obj.mapSeq fun u0=>(#[]:Array Value))).get? D=some (seqObj "list" #[] e1):=⟨_,get?_update_seq hoL fun u0=>#[]⟩
 refine wpAny_bind (listItems_at hoL rfl ?_)
 refine wpAny_bind (listUpdate_at hoL rfl ?_ (by rw [List.size_toArray,sizeLine_eq];exact ln 0x41f1b010000003010b00000040301110 rfl h64) (Nat.zero_le _))
 refine wpAny_bind (seqEpoch_at ho1 rfl ?_)
 refine wpAny_bind (wpAny_newTuple ?_ (by show vs.length≤_;rw [sizeLine_eq];exact ln 0x41f1b010000003010b00000040301110 rfl h64))
 refine wpAny_bind (wpAny_newList ?_ (Nat.zero_le _))
 refine wpAny_holding ?_
 have k1:Keeps s.heap (H1.update D (Obj.mapSeq fun u0=>(#[]:Array Value))):=upd_keeps keep hD
 generalize hH2:H1.update D (Obj.mapSeq fun u0=>(#[]:Array Value))=H2 at ho1 k1
 have k2:Keeps s.heap ((H2.push (seqObj "tuple" vs.toArray 0)).push (seqObj "list" #[] 0)):=push_keeps (push_keeps k1)
 have d2:((H2.push (seqObj "tuple" vs.toArray 0)).push (seqObj "list" #[] 0)).get? D=some (seqObj "list" #[] e1):=Heap.get?_push_of_some _ (Heap.get?_push_of_some _ ho1)
 have hkS:((H2.push (seqObj "tuple" vs.toArray 0)).push (seqObj "list" #[] 0)).get? (H2.push (seqObj "tuple" vs.toArray 0)).objs.size=some (seqObj "list" #[] 0):=Heap.get?_push_size _ rfl
 have hDk:D < (H2.push (seqObj "tuple" vs.toArray 0)).objs.size:=by rw [size_push'];exact Nat.lt_succ_of_lt (Heap.lt_size ho1)
 show wpAny _ _ (ksk_rest D (.ref f) b vs.toArray e1 (.ref (H2.push (seqObj "tuple" vs.toArray 0)).objs.size)) _ _ { s with heap:=(H2.push (seqObj "tuple" vs.toArray 0)).push (seqObj "list" #[] 0) }
 generalize (H2.push (seqObj "tuple" vs.toArray 0)).objs.size=kS at hkS hDk
 generalize (H2.push (seqObj "tuple" vs.toArray 0)).push (seqObj "list" #[] 0)=H3 at k2 d2 hkS
 have hkD:kS≠D:=Nat.ne_of_gt hDk
 have hkb:s.heap.objs.size≤kS:=Nat.le_of_lt (Nat.lt_of_le_of_lt hD hDk)
 unfold ksk_rest
 refine wpAny_bind (wpAny_rule ?_)
 first
  | rw [List.forIn_toArray]
  | (rw [← Array.forIn_toList];simp only [List.toList_toArray])
  | rw [← Array.forIn_toList]
 refine wpAny_bind (wpAny_mono (sorted_loop (s0:=s) (o0:=seqObj "list" #[] e1) hkb hkD hD (fun x s' ks e k hz hk' hx=>?_) vs keys [] 0 { s with heap:=H3 } hk.symm (by simp;exact ln 0x21041f0b000000403010b000000403112b1101120 rfl h64 hk) hkS d2 k2 (in_AA rfl rfl rfl) turn) (fun u0 s' hd=>?_) fun u0 u0 x=>x)
 ·refine wpAny_bind (wpAny_attempt (wpAny_mono hx (fun r s'' hr=>?_) fun u0 u0 hF=>hF.elim))
  refine el_AA hr fun rf0 k3 sm3=>?_;subst rf0
  have nk:=k3 _ _ hk'
  have ea:(List.toArray ks).push r=List.toArray (ks++[r]):=by simp
  try dsimp only
  refine wpAny_bind (listUpdate_at nk rfl ?_ (by rw [List.size_toArray,sizeLine_eq];exact ln 0x41f1b010000003010b00000040301110 rfl hz) (Nat.le_trans (Nat.le_of_eq (Array.size_push ..)) (by rw [List.size_toArray,sizeLine_eq];exact ln 0x41f1b912010000003912010b00000040301110 rfl hz)))
  exact wpAny_pure ⟨rfl,s'',_,_,k3,sm3,rfl,by rw [← ea];exact get?_update_seq nk (·.push r)⟩
 ·refine el_EAAA hd fun e hk' hd' kp sm=>?_
  rw [List.nil_append] at hk'
  try dsimp only
  refine wpAny_bind (listItems_at hk' rfl ?_)
  refine sorted_end (lt:=lt) hk h64 hk' hd' hkD (fun h2 Q hQ=>kind s' kp h2 Q hQ) (fun i j hi hj C hC=>cmp i j s' kp hi hj C hC) fun c g g' q=>?_
  exact (in_EA _ rfl (wpAny_pure (in_EA _ rfl (h D c _ (upd_keeps (upd_keeps kp hkb) hD) (sm.trans (in_AA rfl rfl rfl)) hD q))))
end
end Mine
namespace Mine
structure KeyOk (g:G) (f:Addr):Prop where
 go:∀ (A:Around) (s:Shared) (a:Addr) (c:Nat) (ys:Array Value) (v:Value),A.depth < recursionLimit→(∀ b o,g.B.get? b=some o→s.heap.get? b=some o)→s.heap.get? a=some (tupOf ys c)→ys[2]?=some v →
  wpAny (model g.prog g.w) A (call (.ref f) [.ref a]) (fun r s'=>r=v∧Keeps s.heap s'.heap∧Same s s') (fun u0 u0=>False) s
theorem keyOk_of {g:G} (G:GlobOk g) {f:Addr} {params:Arguments} {scope:Scope} {x:Str} {k:Nat} {p1 p2 p3 p4:Pos} (K:DefK g f params [.Return (some (.Subscript (.Name x p1) (.Constant (.int 2) k p2) p3)) p4] scope [x] []):KeyOk g f:=by
 refine ⟨fun A s a c ys v hd kB ht hv=>?_⟩
 obtain ⟨oc,od,osl,name,qual,dV,kV,doc,pm,an,cdv,ct,hlk,hcd,hb⟩:=K.lk
 have K1:g.K.In s.heap:=G.kin.keeps kB
 refine el_EA (hb s [.ref a] K1 rfl) fun ds hds hbind=>?_
 have:ds=[]:=by have:=hds (fun u0=>none);simpa only [VRs] using this
 subst this
 have hx:(x,NameKind.local)∈scope.names:=by
  have h1:=K.ps
  have:(x,NameKind.local)∈scope.names.take 1:=by rw [show ([x]:List Str).length=1 from rfl] at h1;rw [h1];exact .head _
  exact List.mem_of_mem_take this
 have hlx:=lookup_mem K.nd hx
 refine wpAny_call (codeAny_call_def (fd:=fnOf name qual params [.Return (some (.Subscript (.Name x p1) (.Constant (.int 2) k p2) p3)) p4] scope dV kV doc pm an cdv ct) hd (K1 _ _ hlk) rfl (G.lim.keeps kB) (codeRec_of K1 hcd) rfl hbind K.nc (fun y hy=>?_) (fun h0 hns hk=>?_) K.co K.ge K.kd)
 ·simp only [List.append_nil,List.zip_cons_cons,List.zip_nil_left,List.mem_singleton] at hy
  subst hy
  exact hlx
 ·refine wpAny_execs_cons (wpAny_Return_some (Subscript_ (wpAny_Name (wpAny_loadName_local (v:=.ref a) K.kd hlx hns (by simp [List.lookup]) ?_) (K.db _ hx).1)))
  refine wpAny_Constant_int ?_
  have ht0:h0.get? a=some (tupOf ys c):=hk _ _ ht
  have hsz:2 < ys.size:=(Array.getElem?_eq_some_iff.mp hv).1
  have hT:PyProof.Rows.IsTup h0 a ys:=(in_EAAE _ ht0 rfl c rfl)
  refine tail_any (T:="tuple") (ops:=[.ref a,_]) (in_EA _ ht0 rfl) PySem.F.slot_tuple_getitem.lookup (PyProof.Rows.getItem_tuple hT (by decide) (by decide) (j:=2) ?_ hv (in_AA rfl hk (in_AA rfl rfl rfl))) rfl
  unfold seqIndex?
  simp
  exact ln 0x41f0c601220b0122110 rfl hsz
end Mine
namespace Mine
section
variable {g:G} {nm:List (Str × NameKind)}
theorem snd_sortedK (G:GlobOk g) {j:Nat} {f:Addr} {px pr:PySem.Expr} {x r:E} {y z:Str} {p0 p1 p2 p3 pos:Pos} (hm:(y,NameKind.globalImplicit)∈nm) (hj:(y,Value.builtin "sorted")∈BT) (Sx:Snd g nm px x)
  (hm2:(z,NameKind.globalImplicit)∈nm) (hj2:GT[j]?=some (z,.fn f)) (Sr:Snd g nm pr r) (hst:∀ env,starEach [px] env=[(false,eval px env)]) :
  Snd g nm (.Call (.Name y p0) [px] [⟨some "key",.Name z p1,p2⟩,⟨some "reverse",pr,p3⟩] pos) (.sortedK x j r):=by
 intro n A Fs env m s Z H Q X D V w I L
 cases n with
 | zero=>exact w.elim
 | succ n=>
  show wpAny _ _ (eval (.Name y p0) env >>= fun fv=>callWith pos fv [] (backTo pos (starEach [px] env)) (backToKw pos (keywordEach [⟨some "key",.Name z p1,p2⟩,⟨some "reverse",pr,p3⟩] env))) _ _ _
  refine wpAny_bind (blt_any G hm hj V I ?_)
  refine callWith_of (P:=fun u0=>True) (by rw [one_star hst];rfl) (fun u0 u0=>⟨.machine,.inr (.inl rfl),.now⟩) (evalArgs_kw2 rfl ?_ (hst env))
  rw [one_star hst]
  refine spliced_cons (Sx.use D V w I L .refl (fun u0 u0 x=>x) fun y1 v1 s1 Z1 H1 go1 I1 L1 u0 vr1 w1=>?_)
  refine spliced_nil ?_
  show wpAny _ _ (evalAll [(do let v ← eval (.Name z p1) env;standAt pos;pure v),(do let v ← eval pr env;standAt pos;pure v)]) _ _ _
  refine wpAny_evalAll_cons (wpAny_bind (glob_any G hm2 hj2 V I1 fun yf vrf=>wpAny_bind (wpAny_standAt (wpAny_pure ?_))))
  have hyf:=vrf Z1
  simp only [VR] at hyf
  subst hyf
  refine wpAny_evalAll_cons (wpAny_bind (Sr.use D V w1 I1 L1 go1 (fun u0 u0 x=>x) fun y2 v2 s2 Z2 H2 go2 I2 L2 ex2 vr2 w2=>wpAny_bind (wpAny_standAt (wpAny_pure ?_))))
  refine wpAny_evalAll_nil ⟨trivial,?_⟩
  rw [hj2] at w2
  cases v1 with
  | lst xs=>
   cases v2 with
   | bool b=>
    simp only [VR] at vr2
    subst vr2
    have w3:SortW g n f xs b Q H2:=w2
    exact wpAny_mono (w3.go A Fs s2 Z2 y1 D.pred I2 (VR.mono ex2.seq _ _ vr1)) (fun u0 u0 q=>q.step go2) fun u0 u0 q=>q.elim
   | _=>exact w2.elim
  | _=>exact w2.elim
theorem VRs.getD {Z:Zone} {xs:List V} {ys:List Value} (h:VRs Z xs ys) (i:Nat):VR Z (xs.getD i .none) (ys.getD i .none):=by
 have hl:=h.length
 cases q:xs[i]? with
 | none=>
  have hy:ys[i]?=none:=by rw [List.getElem?_eq_none_iff] at q ⊢;exact ln 0x17c1f1b11212b21011b1101130 rfl hl q
  simp only [List.getD,q,hy,Option.getD_none,VR]
 | some v=>
  refine el_EA (h.get q) fun y e1 e2=>?_
  simpa only [List.getD,q,e1,Option.getD_some] using e2
theorem VRs.katRev {Z:Zone} {xs:List V} {ys:List Value} (h:VRs Z xs ys) (b:Bool):VRs Z (katRev b xs) (katRev b ys):=by
 unfold PySem.W.katRev
 split
 ·exact h.reverse
 ·exact h
theorem VRs.pick {Z:Zone} {xs:List V} {ys:List Value} (h:VRs Z xs ys):∀ l:List Nat,VRs Z (l.map fun i=>xs.getD i .none) (l.map fun i=>ys.getD i .none)
 | []=>.nil
 | i::r=>.cons (h.getD i) (VRs.pick h r)
theorem VRs.sorted {Z:Zone} {xs:List V} {ys:List Value} (h:VRs Z xs ys) (lt:Nat→Nat→Bool) (b:Bool):VRs Z (sortedBy .none lt b xs) (sortedBy .none lt b ys):=by
 unfold sortedBy
 rw [h.length]
 exact ((h.katRev b).pick _).katRev b
inductive Keys where
 | figs (zs:List Int)
 | rows (zs:List (List Int))
noncomputable def Keys.vs:Keys→List V
 | .figs zs=>zs.map .int
 | .rows zs=>zs.map fun z=>.lst (vints z)
noncomputable def Keys.lt (b:Bool):Keys→Nat→Nat→Bool
 | .figs zs,i,j=>decide ((katRev b zs).getD i 0 < (katRev b zs).getD j 0)
 | .rows zs,i,j=>ilt ((katRev b zs).getD i []) ((katRev b zs).getD j [])
theorem katRev_map {α β:Type} (f:α→β) (b:Bool) (l:List α):katRev b (l.map f)=(katRev b l).map f:=by
 unfold PySem.W.katRev
 split
 ·rw [List.map_reverse]
 ·rfl
theorem ints_of_VRs {Z:Zone}:∀ {zs:List Int} {ys:List Value},VRs Z (vints zs) ys→IntsAre ys zs
 | [],_,h=>by simp only [vints,List.map_nil,VRs] at h;subst h;exact .nil
 | z::zs,_,h=>by
  simp only [vints,List.map_cons,VRs] at h
  obtain ⟨y,r,rfl,⟨t,rfl⟩,h⟩:=h
  exact .cons z t (ints_of_VRs h)
noncomputable def recOf (p:V × V × V):V:=.tup [p.1,p.2.1,p.2.2]
theorem keys_of {Z:Zone} {h:Heap} (z:∀ b o,Z b=some o→h.get? b=some o):∀ {ps:List (V × V × V)} {vs:List Value},VRs Z (ps.map recOf) vs →
  ∃ keys:List Value,keys.length=vs.length∧VRs Z (ps.map fun p=>p.2.2) keys∧∀ (i:Nat) (v k:Value),vs[i]?=some v→keys[i]?=some k→∃ a c ys,v=.ref a∧h.get? a=some (tupOf ys c)∧ys[2]?=some k
 | [],_,e=>by simp only [List.map_nil,VRs] at e;subst e;exact (in_EAA ([]) rfl .nil (fun i v k h=>by trivial))
 | p::ps,_,e=>by
  simp only [List.map_cons,VRs] at e
  refine el_EEAA e fun y r rf2 e1 e2=>?_;subst rf2
  refine el_EAA (keys_of z e2) fun keys h1 h2 h3=>?_
  simp only [recOf,VR] at e1
  refine el_EEEAAA e1 fun a c ys rf3 q1 q2 q3=>?_;subst rf3
  have hk:([p.1,p.2.1,p.2.2]:List V)[2]?=some p.2.2:=rfl
  refine el_EA (q3.at hk) fun k k1 k2=>?_
  refine (in_EAA (k::keys) (by simp [h1]) (.cons k2 h2) (fun i v k' hv hk'=>?_))
  cases i with
  | zero=>simp at hv hk';subst hv hk';exact (in_EEEAA a c ys rfl (z _ _ q1) k1)
  | succ i=>simp at hv hk';exact h3 i v k' hv hk'
theorem ints_getD {vs:List Value} {ns:List Int} (h:IntsAre vs ns) {i:Nat} (hi:i < vs.length):∃ t,vs.getD i .none=.int (ns.getD i 0) t:=by
 induction h generalizing i with
 | nil=>simp at hi
 | cons n t h ih=>
  cases i with
  | zero=>exact ⟨t,rfl⟩
  | succ i=>exact ih (by simpa using hi)
theorem lists_getD {Z:Zone} {zs:List (List Int)} {keys:List Value} (h:VRs Z (zs.map fun z=>V.lst (vints z)) keys) {i:Nat} (hi:i < keys.length) :
  ∃ a n ys,keys.getD i .none=.ref a∧Z a=some (PySem.W.listOf ys n)∧IntsAre ys.toList (zs.getD i []):=by
 have hl:=h.length
 rw [List.length_map] at hl
 have hz:(zs.map fun z=>V.lst (vints z))[i]?=some (.lst (vints (zs.getD i []))):=by
  rw [List.getElem?_map]
  have:i < zs.length:=ln 0x1f041f0b01210b11212b1101130 rfl hi hl
  simp [List.getD,this]
 refine el_EA (h.get hz) fun y e1 e2=>?_
 simp only [VR] at e2
 refine el_EEEAAA e2 fun a n ys rf3 q1 q2 q3=>?_;subst rf3
 exact (in_EEEAA a n ys (by simp [List.getD,e1]) q1 (ints_of_VRs q3))
theorem sortW_record (G:GlobOk g) {f:Addr} (Kf:KeyOk g f) {ps:List (V × V × V)} (ks:Keys) (hk:(ps.map fun p=>p.2.2)=ks.vs) (h64:ps.length < 64) {b:Bool} {n:Nat} {Q:QV} {H:Hp}
  (w:NewL (sortedBy .none (ks.lt b) b (ps.map recOf)) Q H):SortW g n f (ps.map recOf) b Q H:=by
 refine ⟨fun A Fs s Z y D I r=>?_⟩
 simp only [VR] at r
 refine el_EEEAAA r fun l c ys rf3 e1 e2 e3=>?_;subst rf3
 have hl:=e3.length
 rw [List.length_map] at hl
 refine el_EAA (keys_of I.zin e3) fun keys k1 k2 k3=>?_
 have hlys:s.heap.get? l=some (PySem.W.listOf ys.toList.toArray c):=by rw [Array.toArray_toList];exact I.zin _ _ e1
 have hu:A.in1.in1.units < cLine:=by have:=D.units;show A.units+1+1 < _;exact ln 0x41f0b21912912010b21900000064391471101130 rfl this
 rw [hk] at k2
 refine sorted_key (lt:=ks.lt b) (keys:=keys) hlys (ln 0x1f041f0b000000403110b000000403012b1101120 rfl h64 hl) k1 (fun i v k s' hv hkk kp=>?_) (fun s' kp h2 R hR=>?_) (fun i j s' kp hi hj C hC=>?_) fun D' c' s' kp sm hge ho=>?_
 ·refine el_EEEAA (k3 i v k hv hkk) fun a c2 zs rf3 q1 q2=>?_;subst rf3
  exact Kf.go A.in1.in1 s' a c2 zs k (by have:=D.depth;show A.depth < _;exact ln 0x41f0b21010b21900000014390471101130 rfl this) (fun b o e=>kp _ _ (I.zin _ _ (I.base _ _ e))) (kp _ _ q1) q2
 ·cases ks with
  | figs zs=>
   have hi:IntsAre keys zs:=ints_of_VRs k2
   refine kind_lists (T:="int") (fun v hv=>?_) (by decide) (ln 0x17c1f1b11222b01111b0122120 rfl k1 h2) hR
   obtain ⟨i,hi',rfl⟩:=List.getElem_of_mem hv
   obtain ⟨t,e⟩:=ints_getD hi hi'
   have:keys.getD i .none=keys[i]:=by simp [List.getD,hi']
   rw [this] at e
   rw [e];exact typeIs_int _ _ _
  | rows zs=>
   refine kind_lists (T:="list") (fun v hv=>?_) (by decide) (ln 0x17c1f1b11222b01111b0122120 rfl k1 h2) hR
   obtain ⟨i,hi',rfl⟩:=List.getElem_of_mem hv
   refine el_EEEAA (lists_getD k2 hi') fun a n' us e q u0=>?_
   have:keys.getD i .none=keys[i]:=by simp [List.getD,hi']
   rw [this] at e
   rw [e];exact (in_EA _ (kp _ _ (I.zin _ _ q)) rfl)
 ·have hlk:(katRev b keys).length=ys.toList.length:=by rw [kat_len,k1]
  cases ks with
  | figs zs=>
   have k2':VRs Z (vints (katRev b zs)) (katRev b keys):=by
    have:=k2.katRev b
    rw [show Keys.vs (.figs zs)=zs.map V.int from rfl,katRev_map] at this
    exact this
   have hI:IntsAre (katRev b keys) (katRev b zs):=ints_of_VRs k2'
   obtain ⟨t1,f1⟩:=ints_getD hI (i:=i) (ln 0x1f041f0b01210b11212b1101130 rfl hi hlk)
   obtain ⟨t2,f2⟩:=ints_getD hI (i:=j) (ln 0x1f041f0b01210b11212b1101130 rfl hj hlk)
   rw [f1,f2]
   exact kat_lt_int hC
  | rows zs=>
   have k2':VRs Z ((katRev b zs).map fun z=>V.lst (vints z)) (katRev b keys):=by
    have:=k2.katRev b
    rw [show Keys.vs (.rows zs)=zs.map (fun z=>V.lst (vints z)) from rfl,katRev_map] at this
    exact this
   refine el_EEEAA (lists_getD k2' (i:=i) (ln 0x1f041f0b01210b11212b1101130 rfl hi hlk)) fun a1 n1 us1 f1 g1 i1=>?_
   refine el_EEEAA (lists_getD k2' (i:=j) (ln 0x1f041f0b01210b11212b1101130 rfl hj hlk)) fun a2 n2 us2 f2 g2 i2=>?_
   rw [f1,f2]
   exact oneLt_list hu (kp _ _ (I.zin _ _ g1)) (kp _ _ (I.zin _ _ g2)) i1 i2 hC
 ·obtain ⟨h',g',dr,tk,os⟩:=s'
  refine el_AA sm fun r1 r2 r3=>?_
  dsimp only at r1 r2 r3 kp ho
  subst r1 r2 r3
  have:=w.run (s:=s) (h':=h') (t:=tk) (ys:=List.toArray (sortedBy Value.none (ks.lt b) b ys.toList)) (c:=c') I (by simpa using e3.sorted (ks.lt b) b) kp hge G.three ho
  exact this
end
end Mine
namespace Mine
theorem ints_of_keys:∀ {vs:List Value} {ks:List Int},vs.length=ks.length→(∀ (i:Nat) (v:Value),vs[i]?=some v→∃ k t,v=.int k t∧ks[i]?=some k)→IntsAre vs ks
 | [],[],_,_=>.nil
 | [],_::_,h,_=>by trivial
 | _::_,[],h,_=>by trivial
 | v::vs,k::ks,h,f=>by
  refine el_EEA (f 0 v rfl) fun k' t rf2 e=>?_;subst rf2
  simp at e
  subst e
  exact .cons _ t (ints_of_keys (by exact Nat.succ.inj h) fun i v hv=>by simpa using f (i+1) v (by simpa using hv))
theorem vints_VRs {Z:Zone}:∀ {ys:List Value} {zs:List Int},IntsAre ys zs→VRs Z (vints zs) ys
 | _,_,.nil=>.nil
 | _,_,.cons z t h=>.cons (by simp only [VR];exact ⟨t,rfl⟩) (vints_VRs h)
section
variable {g:G} {nm:List (Str × NameKind)}
theorem NewL.run2 {Fs:List Addr} {Z:Zone} {H:Hp} {s:Shared} {Q:QV} {xs:List V} {ys:Array Value} {a:Addr} {h':Heap} {t c:Nat} (w:NewL xs Q H) (I:Inv g.prog g.w g.B Fs Z H s.heap) (vs:VRs Z xs ys.toList) (k:Keeps s.heap h') (ha:s.heap.get? a=none) (h3:3 < a)
  (ho:h'.get? a=some (PySem.W.listOf ys c)):OkE g Fs Z s Q (.ref a) { s with heap:=h',toks:=t }:=by
 obtain ⟨sz,go⟩:=w
 have hsz:ys.size≤2 ^ 24:=by rw [← Array.length_toList,← vs.length];exact sz
 refine el_AA (I.hNone ha) fun hH hZ u0=>?_
 rcases go with q | q
 ·have e:=Ext.put (o:=PySem.W.listOf ys c) hZ
  refine ⟨.lst xs,put Z a (PySem.W.listOf ys c),H,⟨e,.of_keeps k,(in_AA rfl rfl rfl)⟩,I.freezeNew k ha ho,?_,q⟩
  simp only [VR]
  exact (in_EEEAAA a c ys rfl put_at hsz (VRs.mono e.seq _ _ vs))
 ·refine ⟨.ref a,Z,put H a (.list xs),⟨.refl _,.of_keeps k,(in_AA rfl rfl rfl)⟩,I.ownNew k h3 ha (fun u0=>(in_EEAA ys c ho hsz vs)) (fun u0 u0 q=>by trivial),?_,q a hH⟩
  rfl
theorem snd_sortedD (G:GlobOk g) {px:PySem.Expr} {e:E} {x:Str} {p pos:Pos} (hm:(x,NameKind.globalImplicit)∈nm) (hj:(x,Value.builtin "sorted")∈BT) (Sx:Snd g nm px e) (hst:∀ env,starEach [px] env=[(false,eval px env)]) :
  Snd g nm (.Call (.Name x p) [px] [] pos) (.sortedD e):=by
 intro n A Fs env m s Z H Q X D V w I L
 show wpAny _ _ (eval (.Name x p) env >>= fun fv=>callWith pos fv [] (backTo pos (starEach [px] env)) []) _ _ _
 refine wpAny_bind (blt_any G hm hj V I ?_)
 rw [one_star hst]
 refine callWith_of (P:=fun u0=>True) rfl (fun u0 u0=>(in_EA .machine (.inr (.inl rfl)) .now)) (evalArgs_all rfl (spliced_cons (Sx.use D V w I L .refl (fun u0 u0 x=>x) fun y v s1 Z1 H1 go1 I1 L1 u0 vr w1=>?_)))
 refine spliced_nil ⟨trivial,?_⟩
 refine el_EA (refW_el w1) fun a rf1 w1=>?_;subst rf1
 ·skip
  simp only [VR] at vr
  subst vr
  refine el_EAAE w1 fun es ha h64 ks rt4=>?_;obtain ⟨p1,p2,q⟩:=rt4
  obtain ⟨δ,o1,-⟩:=I1.own
  refine el_AA (o1 _ _ ha) fun rt0 u0 h3=>?_;obtain ⟨o,kvs,e1,e2,e3,e4⟩:=rt0
  have hd:s1.heap.DictOf (intKind g.prog g.w) a kvs:=Heap.dictOf_iff.mpr (in_EA o e1 e2)
  obtain ⟨ep,hat⟩:=hd.dictAt
  have hl:=e4.length
  have lo:(a==sysModules)=false:=by
   refine beq_eq_false_iff_ne.mpr fun q=>?_
   rw [q] at h3
   revert h3
   decide
  show wpAny _ _ (call (.builtin "sorted") [.ref a]) _ _ _
  refine call_function_entry kind_sorted plain_sorted entry_sorted (args_sorted1 _) ?_
  unfold Builtin.«sorted»
  refine wpAny_bind (m:=checkCount "sorted" 1 1 _) (wpAny_pure ?_)
  refine wpAny_bind (kdu_collect (A:=A.in1) (kdl_dict (knd:=intKind g.prog g.w) (kvs:=kvs) (ep:=ep) lo) D.handled hat (by rw [sizeLine_eq];exact ln 0x41f1b010000003011b14401110 rfl e3) fun h' tk acc hk hacc=>?_)
  have hla:acc.toList.length=kvs.length:=by rw [Array.length_toList];exact hacc.1
  refine wpAny_bind (wpAny_newList ?_ (by rw [hla,sizeLine_eq];exact ln 0x41f1b010000003011b14401110 rfl e3))
  have hoL:(h'.push { cls:=.type "list",data:=.seq acc.toList.toArray }).get? h'.objs.size=some (seqObj "list" acc.toList.toArray 0):=Heap.get?_push_size _ rfl
  have hI:IntsAre acc.toList (kvs.map (·.1)):=by
   refine ints_of_keys (by rw [hla,List.length_map]) fun i v hv=>?_
   refine el_EEA (hacc.2 i v (by rw [← Array.getElem?_toList];exact hv)) fun k x h1 h2=>?_
   obtain ⟨t,rfl⟩:=Value.isInt_shape h2
   exact (in_EEA k t rfl (by rw [List.getElem?_map,h1];rfl))
  refine wpAny_bind (wpAny_holding (wpAny_call_entry slot_list_sort (in_EA _ hoL rfl) entry_list_sort (list_sort_tree hoL hI (ln 0x85f041f0b000000403010b000000403212b11212b1101130 rfl h64 hl hla) fun out ns' a1 a2 a3=>(in_EA _ rfl ?_)) (args_list_sort _)))
  refine wpAny_pure (in_EA _ rfl ?_)
  have hk2:Keeps s1.heap (h'.push { cls:=.type "list",data:=.seq acc.toList.toArray }):=push_keeps hk
  have hnone:s1.heap.get? h'.objs.size=none:=by
   cases q:s1.heap.get? h'.objs.size with
   | none=>rfl
   | some o=>exact absurd (Heap.lt_size (hk _ _ q)) (Nat.lt_irrefl _)
  have h3':3 < h'.objs.size:=by
   refine el_EEEEA G.three fun m3 o3 es3 ep3 f3 u0=>?_
   exact Heap.lt_size (hk _ _ (I1.zin _ _ (I1.base _ _ f3)))
  have hks:ks=ns':=lks_uniq (p1.trans (by rw [e4.keys];exact a2.symm)) p2 a3
  have hat2:=sortedHeap_at (out:=out) hoL
  obtain ⟨c',hat2⟩:=hat2
  refine (q.run2 (s:=s1) (t:=tk) (c:=c') I1 (by rw [hks];exact vints_VRs a1) (fun b o e=>?_) hnone h3' hat2).step go1
  have hlt:=Heap.lt_size (hk2 _ _ e)
  exact (sortedHeap_old (fun q=>by rw [q,hnone] at e;trivial) hlt).trans (hk2 _ _ e)
theorem ItemsOf.ints {acc:Array Value} {a:Int} {n:Nat} (h:ItemsOf (fun i v=>∃ t,v=.int (a+(i:Nat)*1) t) acc n):IntsAre acc.toList ((List.range n).map fun k=>a+(k:Nat)):=by
 refine ints_of_keys (by rw [Array.length_toList,h.1];simp) fun i v hv=>?_
 have hv':acc[i]?=some v:=by rw [← Array.getElem?_toList];exact hv
 obtain ⟨t,rfl⟩:=h.2 i v hv'
 have hi:i < n:=by rw [← h.1];exact (Array.getElem?_eq_some_iff.mp hv').1
 exact (in_EEA _ t rfl (by rw [List.getElem?_map,List.getElem?_range hi];simp))
theorem snd_listR (G:GlobOk g) {px:PySem.Expr} {e:E} {x y:Str} {p p2 pos pos2:Pos} (hm:(x,NameKind.globalImplicit)∈nm) (hj:(x,Value.type "list")∈BT) (hm2:(y,NameKind.globalImplicit)∈nm) (hj2:(y,Value.type "range")∈BT) (Sx:Snd g nm px e)
  (hst:∀ env,starEach [px] env=[(false,eval px env)]) :
  Snd g nm (.Call (.Name x p) [.Call (.Name y p2) [px] [] pos2] [] pos) (.listR e):=by
 intro n A Fs env m s Z H Q X D V w I L
 show wpAny _ _ (eval (.Name x p) env >>= fun fv=>callWith pos fv [] (backTo pos (starEach [.Call (.Name y p2) [px] [] pos2] env)) []) _ _ _
 refine wpAny_bind (blt_any G hm hj V I ?_)
 rw [one_star (fun u0=>rfl)]
 refine callWith_of (P:=fun u0=>True) rfl (fun u0 u0=>(in_EA .machine (.inr (.inl rfl)) .now)) (evalArgs_all rfl (spliced_cons ?_))
 show wpAny _ _ (eval (.Name y p2) env >>= fun fv=>callWith pos2 fv [] (backTo pos2 (starEach [px] env)) []) _ _ _
 refine wpAny_bind (blt_any G hm2 hj2 V I ?_)
 rw [one_star hst]
 refine callWith_of (P:=fun u0=>True) rfl (fun u0 u0=>(in_EA .machine (.inr (.inl rfl)) .now)) (evalArgs_all rfl (spliced_cons (Sx.use D V w I L .refl (fun u0 u0 x=>x) fun y v s1 Z1 H1 go1 I1 L1 u0 vr w1=>?_)))
 refine spliced_nil ⟨trivial,?_⟩
 refine el_EA (intW_el w1) fun k rf1 w1=>?_;subst rf1
 ·skip
  simp only [VR] at vr
  obtain ⟨t,rfl⟩:=vr
  refine call_range_1 ?_
  refine spliced_nil ⟨trivial,?_⟩
  obtain ⟨k0,w1⟩:=w1
  have sz:=w1.sz
  simp only [List.length_map,rangeL,List.length_range] at sz
  have hrs:Builtin.Range.rangeSize 0 k 1=((k - 0).toNat:Nat):=(rangeSize_one _ _).trans (clip_int _ _)
  refine call_list_range (n:=(k - 0).toNat) D.handled (Heap.get?_push_size _ rfl) ?_ hrs sz fun h' tk acc c hk ho hit=>?_
  ·exact small_one (by decide) (by decide) (ln 0x41f1c0053e41c0002101 rfl k0) (ln 0x1f041f0c3e4001b184012ca0200601111 rfl sz (Int.toNat_of_nonneg (ln 0x41f1ca0200021c0002101 rfl k0)))
  ·have hI:=ItemsOf.ints hit
   refine (w1.run (s:=s1) (ys:=acc) (c:=c) (t:=tk) I1 ?_ ((keeps_push _ _).trans hk) (by rw [Heap.size_push];exact Nat.le_succ _) G.three ho).step go1
   exact vints_VRs hI
end
end Mine
namespace Mine
open Builtin Builtin.ObjectAttr
theorem refuse_exc (self:Value) (C:Addr):refuseLoop self "__setattr__" [.ref C,.type "Exception",.type "BaseException",.type "object"]=pure ():=by
 rw [refuseLoop_ref]
 kernel_rfl
section
variable {prog:Program} {w:World} {A:Around} {s:Shared} {K:Frag} {x C:Addr} {R:Result→Shared→Prop}
theorem exc_open {ox:Obj} {od:Option Obj} {name:Str} {tk:Tok} {v:Value} {cd:ClassData} (X:K.In s.heap) (I:InstAt s.heap x ox C od) (hc:clsIn K C=some cd) (hm:cd.mro=[.ref C,.type "Exception",.type "BaseException",.type "object"]) (ht:findIn K (.ref C) name=some none)
  (h:∀ b,wpAny (model prog w) A.in1 (storeInOwnDict (.ref x) (.ref C) (.str name tk) name v b)
   (fun fin s'=>match fin with | .done f=>R (.ok f) s' | .again c'=>c'.quiet=true∧codeAny (model prog w) A c' R s') (fun e s'=>R (.error e) s') s) :
  codeAny (model prog w) A (.call (.builtin "object.__setattr__") ⟨[.ref x,.str name tk,v],[]⟩) R s:=by
 have SF:=PySem.F.store_object
 have ne:cd.mro.isEmpty=false:=by rw [hm];rfl
 have sub:Looks (model prog w) s.heap (isInstance (.ref x) (.type "object")) true:=I.type.andThen (looks_mroIn X (by unfold mroIn;rw [hc,Option.bind_some,if_neg (by rw [ne];exact Bool.noConfusion),hm];rfl))
 refine codeAny_call_builtin SF.slot.plain SF.entry (@check_slot (model prog w) _ _ s "object.__setattr__" "object" "__setattr__" (.ref x) [.str name tk,v] [] _ SF.kind SF.split sub (SF.args (.ref x) (.str name tk) v) ?_)
 have hmo:Looks (model prog w) s.heap (mroOf (.ref C)) cd.mro:=(looks_clsIn X hc).andThen .now
 have L3:Looks (model prog w) s.heap (storeTaker? none) none:=.now
 rw [osa_eq,refuse_eq]
 refine wpAny_bind (wpAny_bind (I.type.here (wpAny_bind (hmo.here ?_))))
 rw [hm,refuse_exc]
 refine wpAny_pure (wpAny_bind (I.type.here (wpAny_bind ((looks_findIn X ht).here (wpAny_bind (L3.here ?_))))))
 exact h _
theorem exc_set1 {E:Value→Shared→Prop} {vs:Array Value} {name:Str} {v:Value} {Q:Unit→Shared→Prop} {cd:ClassData} (X:K.In s.heap) (hx:s.heap.get? x=some { cls:=.ref C,dict:=none,data:=.fields vs,slots:=#[] }) (hc:clsIn K C=some cd) (hm:cd.mro=[.ref C,.type "Exception",.type "BaseException",.type "object"]) (hd:cd.hasDict=true) (ht:findIn K (.ref C) name=some none)
  (hs:findIn K (.ref C) "__setattr__"=some (some (.builtin "object.__setattr__")))
  (h:∀ h' n tk,h'.get? x=some { cls:=.ref C,dict:=some s.heap.objs.size,data:=.fields vs,slots:=#[] }→h'.get? s.heap.objs.size=some (dictOf (putL name (PyData.keyHash w.params name) (.str name tk) v []) n) →
   (∀ b o,b≠x→s.heap.get? b=some o→h'.get? b=some o)→Q () { s with heap:=h',toks:=s.toks+2 }) :
  wpAny (model prog w) A (setAttr (.ref x) name v) Q E s:=by
 have I:InstAt s.heap x { cls:=.ref C,dict:=none,data:=.fields vs,slots:=#[] } C none:=⟨hx,rfl,rfl,trivial⟩
 refine set_plain X I hs (exc_open (s:={ s with toks:=s.toks+1 }) X I hc hm ht fun b=>?_)
 refine wpAny_bind (wpAny_pure (wpAny_bind (wpAny_bind (wpAny_loadPart hx (wpAny_bind (looks_clsIn X hc _ _ _ _ (fun u0 u0 e=>e) ?_))))))
 rw [hd]
 refine wpAny_bind (wpAny_alloc ?_)
 have hx1:=Heap.get?_push_of_some (h:=s.heap) { cls:=.type "dict",data:=.dict #[] } hx
 have hsz:=Heap.size_push s.heap { cls:=.type "dict",data:=.dict #[] }
 have hne:x≠s.heap.objs.size:=Nat.ne_of_lt (Heap.lt_size hx)
 refine wpAny_bind (wpAny_updatePart hx1 ?_)
 refine wpAny_bind (wpAny_pure (wpAny_pure ?_))
 have D0:(s.heap.push { cls:=.type "dict",data:=.dict #[] }).get? s.heap.objs.size=some (dictOf [] 0):=Heap.get?_push_size _ rfl
 generalize hH:(s.heap.push { cls:=.type "dict",data:=.dict #[] })=H1 at hx1 D0
 have kp1:∀ b o,s.heap.get? b=some o→H1.get? b=some o:=fun b o e=>by rw [← hH];exact Heap.get?_push_of_some _ e
 have hlt:∀ b o,s.heap.get? b=some o→s.heap.objs.size≠b:=fun b o e=>Nat.ne_of_gt (Heap.lt_size e)
 generalize s.heap.objs.size=dx at *
 have hx2:(H1.update x fun o=>{ o with dict:=some dx }).get? x=some { cls:=.ref C,dict:=some dx,data:=.fields vs,slots:=#[] }:=Heap.get?_update_self (fun o=>{ o with dict:=some dx }) hx1 rfl
 have D:(H1.update x fun o=>{ o with dict:=some dx }).get? dx=some (dictOf [] 0):=(Heap.get?_update_other _ _ hne).trans D0
 have kp2:∀ b o,b≠x→s.heap.get? b=some o→(H1.update x fun o=>{ o with dict:=some dx }).get? b=some o:=fun b o hb e=>(Heap.get?_update_other _ _ (Ne.symm hb)).trans (kp1 b o e)
 show wpAny (model prog w) A.in1 (storeInDict dx (Value.str name s.toks) name v) _ _ { s with heap:=H1.update x fun o=>{ o with dict:=some dx },toks:=s.toks+1 }
 generalize (H1.update x fun o=>{ o with dict:=some dx })=H2 at hx2 D kp2
 refine wpAny_bind (wpAny_pure (wpAny_bind ?_))
 unfold nsSet
 refine wpAny_bind (wpAny_bind (wpAny_askSetting (wpAny_pure (wpAny_bind (wpAny_mkText (wpAny_bind (wpAny_loadPart D ?_)))))))
 dsimp only [dictOf]
 have c:(!(List.toArray ([]:List DictEntry)).any (·.key.isStr name)&&(List.toArray ([]:List DictEntry)).any (·.refKey))=false:=by simp
 rw [aRefKeyMayBeTheName_at,c]
 refine wpAny_updatePart D ?_
 have hput:=putName_dict name (PyData.keyHash w.params name) (.str name (s.toks+1)) v [] 0
 have D':=Heap.get?_update_self (Obj.putName name (PyData.keyHash w.params name) (.str name (s.toks+1)) v) D (by rw [hput];rfl)
 rw [hput] at D'
 refine wpAny_bind (wpAny_lookBehind D' (pastItsLine_dict (by rw [List.size_toArray,sizeLine_eq];have:=putL_len name (PyData.keyHash w.params name) (.str name (s.toks+1)) v [];simp only [List.length_nil] at this;exact Nat.succ_pos _)) ?_)
 exact wpAny_pure (h _ _ _ ((Heap.get?_update_other _ _ (Ne.symm hne)).trans hx2) D' fun b o hb e=>(Heap.get?_update_other _ _ (hlt b o e)).trans (kp2 b o hb e))
theorem exc_set2 {E:Value→Shared→Prop} {vs:Array Value} {dx:Addr} {es:List DictEntry} {n:Nat} {name:Str} {v:Value} {Q:Unit→Shared→Prop} {cd:ClassData} (X:K.In s.heap) (hx:s.heap.get? x=some { cls:=.ref C,dict:=some dx,data:=.fields vs,slots:=#[] })
  (D:s.heap.get? dx=some (dictOf es n)) (hr:es.any (·.refKey)=false) (hz:es.length≤1000)
  (hc:clsIn K C=some cd) (hm:cd.mro=[.ref C,.type "Exception",.type "BaseException",.type "object"]) (hd:cd.hasDict=true) (ht:findIn K (.ref C) name=some none)
  (hs:findIn K (.ref C) "__setattr__"=some (some (.builtin "object.__setattr__")))
  (h:∀ h' n tk,h'.get? x=some { cls:=.ref C,dict:=some dx,data:=.fields vs,slots:=#[] }→h'.get? dx=some (dictOf (putL name (PyData.keyHash w.params name) (.str name tk) v es) n) →
   (∀ b o,b≠dx→s.heap.get? b=some o→h'.get? b=some o)→Q () { s with heap:=h',toks:=s.toks+2 }) :
  wpAny (model prog w) A (setAttr (.ref x) name v) Q E s:=by
 have I:InstAt s.heap x { cls:=.ref C,dict:=some dx,data:=.fields vs,slots:=#[] } C (some (dictOf es n)):=⟨hx,rfl,rfl,D⟩
 refine set_plain X I hs (exc_open (s:={ s with toks:=s.toks+1 }) X I hc hm ht fun b=>?_)
 refine wpAny_bind (wpAny_pure (wpAny_bind (wpAny_bind (wpAny_loadPart hx (wpAny_bind (looks_clsIn X hc _ _ _ _ (fun u0 u0 e=>e) ?_))))))
 rw [hd]
 refine wpAny_pure (a:=some dx) (wpAny_bind (wpAny_pure (wpAny_bind ?_)))
 unfold nsSet
 refine wpAny_bind (wpAny_bind (wpAny_askSetting (wpAny_pure (wpAny_bind (wpAny_mkText (wpAny_bind (wpAny_loadPart D ?_)))))))
 dsimp only [dictOf]
 have c:(!es.toArray.any (·.key.isStr name)&&es.toArray.any (·.refKey))=false:=by
  have:es.toArray.any (·.refKey)=es.any (·.refKey):=by simp
  rw [this,hr,Bool.and_false]
 rw [aRefKeyMayBeTheName_at,c]
 refine wpAny_updatePart D ?_
 have hne:x≠dx:=fun q=>by rw [q,D] at hx;have q2:(dictOf es n).data=Data.fields vs:=congrArg Obj.data (Option.some.inj hx);trivial
 have hput:=fun m=>putName_dict name (PyData.keyHash w.params name) (.str name (s.toks+1)) v es m
 have D':=Heap.get?_update_self (Obj.putName name (PyData.keyHash w.params name) (.str name (s.toks+1)) v) D (by rw [hput];rfl)
 rw [hput] at D'
 have hl:=putL_len name (PyData.keyHash w.params name) (.str name (s.toks+1)) v es
 refine wpAny_bind (wpAny_lookBehind D' (pastItsLine_dict (by rw [List.size_toArray,sizeLine_eq];exact ln 0x1041f1b912010000003011b000003e83111b9121101120 rfl hz hl)) ?_)
 exact wpAny_pure (h _ _ _ ((Heap.get?_update_other _ _ (Ne.symm hne)).trans hx) D' fun b o hb e=>(Heap.get?_update_other _ _ (Ne.symm hb)).trans e)
end
inductive ClsAt (K:Frag):Prop
 | mk (nm q:Str) (N:Addr) (bs:List Value) (sn:List Str) (sub:List Value) (ab:Bool) (col:Option Bool) (dd:Option Addr) (k0 k1 k2 k3 k5:Option Value) (newId initId:String) (oN:Obj) (esN:List DictEntry)
  (h1:K.lookup cLisp=some (excClassObj nm q cLisp N bs [.type "Exception",.type "BaseException",.type "object"] true sn sub ab col dd k0 k1 k2 k3 k5 newId))
  (h2:ExcBaseFacts "Exception" newId initId [.type "Exception",.type "BaseException",.type "object"]) (h3:K.lookup N=some oN) (h4:∃ n,oN=dictOf esN n) (h5:StrKeys esN.toArray) (h6:nsFind esN.toArray "__init__"=some (.ref 35)):ClsAt K
structure ExcK (g:G):Prop where
 cls:ClsAt g.K
 set:findIn g.K (.ref cLisp) "__setattr__"=some (some (.builtin "object.__setattr__"))
 sym:findIn g.K (.ref cLisp) "symbol"=some none
 dat:findIn g.K (.ref cLisp) "data"=some none
 ini:∃ params p1 p2 p3 p4 p5 p6 p7 p8 scope,DefK g 35 params [.Assign [.Attribute (.Name "self" p1) "symbol" p2] (.Name "symbol" p3) p4,.Assign [.Attribute (.Name "self" p5) "data" p6] (.Name "data" p7) p8] scope ["self","symbol","data"] []
 keep:keepIn g.K (.ref cLisp)=true
 icls:∃ oI,g.K.lookup 35=some oI∧oI.cls=.type "function"
end Mine
namespace Mine
section
variable {g:G} {nm:List (Str × NameKind)}
theorem clsIn_of {K:Frag} {C:Addr} {c:Value} {cd:ClassData} {sl:Array (Option Value)} {d:Option Addr} (h:K.lookup C=some ⟨c,d,.cls cd,sl⟩):clsIn K C=some cd:=by unfold clsIn;rw [h]
theorem lisp_init (G:GlobOk g) (LK:ExcK g) {A:Around} {s:Shared} {e:Addr} {vs:Array Value} {y1 y2:Value} (hd:A.depth < recursionLimit) (hBe:g.B.get? e=none) (kB:∀ b o,g.B.get? b=some o→s.heap.get? b=some o)
  (he:s.heap.get? e=some { cls:=.ref cLisp,dict:=none,data:=.fields vs,slots:=#[] }) :
  wpAny (model g.prog g.w) A (call (.ref 35) [.ref e,y1,y2]) (fun r s'=>r=.none∧Same s s'∧(∀ b o,b≠e→s.heap.get? b=some o→s'.heap.get? b=some o) ∧
   ∃ dx es n,s.heap.get? dx=none∧s'.heap.get? e=some { cls:=.ref cLisp,dict:=some dx,data:=.fields vs,slots:=#[] }∧s'.heap.get? dx=some (dictOf es n)∧getL ("symbol":Str) es=some (some y1)) (fun u0 u0=>False) s:=by
 obtain ⟨nmC,q,N,bs,sn,sub,ab,col,dd,k0,k1,k2,k3,k5,newId,initId,oN,esN,hC,-⟩:=LK.cls
 refine el_EE LK.ini fun params p1 rt2=>?_;obtain ⟨p2,p3,p4,p5,p6,p7,p8,scope,K⟩:=rt2
 obtain ⟨oc,od,osl,name,qual,dV,kV,doc,pm,an,cdv,ct,hlk,hcd,hb⟩:=K.lk
 have hcl:=clsIn_of hC
 have K1:g.K.In s.heap:=G.kin.keeps kB
 refine el_EA (hb s [.ref e,y1,y2] K1 rfl) fun ds hds hbind=>?_
 have:ds=[]:=by have:=hds (fun u0=>none);simpa only [VRs] using this
 subst this
 have hps:=K.ps
 have hmem:∀ x∈(["self","symbol","data"]:List Str),(x,NameKind.local)∈scope.names:=fun x hx=>by
  have:(x,NameKind.local)∈scope.names.take 3:=by
   rw [show (["self","symbol","data"]:List Str).length=3 from rfl] at hps
   rw [hps];exact List.mem_map.mpr (in_EA x hx rfl)
  exact List.mem_of_mem_take this
 have hlook:∀ x∈(["self","symbol","data"]:List Str),scope.names.lookup x=some .local:=fun x hx=>lookup_mem K.nd (hmem x hx)
 have m1:=hmem "self" (by exact .head _)
 have m2:=hmem "symbol" (by exact .tail _ (.head _))
 have m3:=hmem "data" (by exact .tail _ (.tail _ (.head _)))
 have l1:=hlook "self" (by exact .head _)
 have l2:=hlook "symbol" (by exact .tail _ (.head _))
 have l3:=hlook "data" (by exact .tail _ (.tail _ (.head _)))
 refine wpAny_call (codeAny_call_def (fd:=fnOf name qual params [.Assign [.Attribute (.Name "self" p1) "symbol" p2] (.Name "symbol" p3) p4,.Assign [.Attribute (.Name "self" p5) "data" p6] (.Name "data" p7) p8] scope dV kV doc pm an cdv ct) hd (K1 _ _ hlk) rfl (G.lim.keeps kB) (codeRec_of K1 hcd) rfl hbind K.nc (fun y hy=>?_) (fun h0 hns hk=>?_) K.co K.ge K.kd)
 ·simp only [List.append_nil,List.zip_cons_cons,List.zip_nil_left,List.mem_cons,List.not_mem_nil,or_false] at hy
  rcases hy with rfl | rfl | rfl
  ·exact l1
  ·exact l2
  ·exact l3
 ·have he0:=hk _ _ he
  have hLe:e≠s.heap.objs.size:=Nat.ne_of_lt (Heap.lt_size he)
  have K0:g.K.In h0:=K1.keeps hk
  refine wpAny_execs_cons (plainObj_wpAny_Assign_Attribute (wpAny_Name (wpAny_loadName_local (v:=y1) K.kd l2 hns rfl (wpAny_Name (wpAny_loadName_local (v:=.ref e) K.kd l1 hns rfl ?_) (K.db _ m1).1)) (K.db _ m2).1))
  have hLlt:s.heap.objs.size < h0.objs.size:=hns.lt
  refine exc_set1 K0 he0 hcl rfl rfl LK.sym LK.set fun h1 n1 t1 f1 f2 f3=>?_
  have hns1:=hns
  have nsk:∀ mm,h0.Ns s.heap.objs.size mm→h1.Ns s.heap.objs.size mm:=fun mm ⟨o,es,ep,a1,a2⟩=>⟨o,es,ep,f3 _ _ (Ne.symm hLe) a1,a2⟩
  have ns1:=nsk _ hns1
  have hdx:s.heap.get? h0.objs.size=none:=by
   cases q:s.heap.get? h0.objs.size with
   | none=>rfl
   | some o=>exact absurd (Nat.lt_trans (Heap.lt_size q) hLlt) (Nat.lt_irrefl _)
  have hKe:∀ b o,g.K.lookup b=some o→b≠e:=fun b o hl q=>by
   have:=G.kin b o hl
   rw [q,hBe] at this;trivial
  have K2:g.K.In h1:=fun b o hl=>f3 b o (hKe b o hl) (K0 b o hl)
  refine wpAny_execs_cons (plainObj_wpAny_Assign_Attribute (wpAny_Name (wpAny_loadName_local (v:=y2) K.kd l3 ns1 rfl (wpAny_Name (wpAny_loadName_local (v:=.ref e) K.kd l1 ns1 rfl ?_) (K.db _ m1).1)) (K.db _ m3).1))
  refine exc_set2 K2 f1 f2 rfl (by exact Nat.succ_pos _) hcl rfl rfl LK.dat LK.set fun h2 n2 t2 g1 g2 g3=>?_
  refine wpAny_execs_nil (in_AAA rfl (in_AA rfl rfl rfl) (fun b o hbe e1=>g3 b o (fun q=>by rw [q,hdx] at e1;trivial) (f3 b o hbe (hk b o e1))) ⟨h0.objs.size,_,n2,hdx,g1,g2,rfl⟩)
theorem raise_made {M:Model} {A:Around} {E:Value→Shared→Prop} {env:Env} {nm q:Str} {C N:Addr} {bs bm:List Value} {hdct:Bool} {sn:List Str} {sub:List Value} {ab:Bool} {col:Option Bool} {dd:Option Addr} {k0 k1 k2 k3 k5:Option Value} {newId:String}
  {s:Shared} {x:Sem Value} {Q:Flow→Shared→Prop} (hbase:bm.contains (.type "BaseException")=true) (hh:A.handled=none)
  (h:wpAny M A x (fun v s₁=>∃ e t d,v=.ref e∧s₁.heap.get? C=some (excClassObj nm q C N bs bm hdct sn sub ab col dd k0 k1 k2 k3 k5 newId) ∧
   s₁.heap.get? e=some { cls:=.ref C,dict:=some d,data:=.fields #[.ref t,.none,.none,.none,.bool false,.none],slots:=#[] }∧E (.ref e) s₁) E s) :
  wpAny M A (raiseStmt env (some x) none) Q E s:=by
 have hcB:(Value.ref C::bm).contains (.type "BaseException")=true:=by trivial
 unfold raiseStmt
 refine wpAny_bind (wpAny_mono h (fun v s₁ h₁=>?_) fun u0 u0 x=>x)
 refine el_EEEAAA h₁ fun e t d rf3 hC he hE=>?_;subst rf3
 obtain ⟨hp,g,dr,tk,os⟩:=s₁
 repeat (first | with_reducible refine wpAny_loadPart_at he ?_ | with_reducible refine wpAny_loadPart_at hC ?_ | (with_reducible refine wpAny_isSubtype_exc hC ?_;rw [hcB]) | wp_step)
 exact wpAny_raiseNew_none hh hE
theorem sndS_raise (G:GlobOk g) (LK:ExcK g) {x:Str} {pes:List PySem.Expr} {es:Es} {np cp lp cpos pos:Pos} {k j:Nat} (hm:(Str.ofString "LispSignal",NameKind.globalImplicit)∈nm) (hj:GT[j]?=some (Str.ofString "LispSignal",.fn cLisp)) (Ss:SndEs g nm pes es) :
  SndS g nm (.Raise (some (.Call (.Name "LispSignal" np) [.Constant (.str x) k cp,.List pes lp] [] cpos)) none pos) (.raise x es):=by
 intro n A L Fc env m Z0 s0 s Z H N R X D V O B0 w go I LR
 obtain ⟨nmC,q,NC,bs,sn,sub,ab,col,dd,k0,k1,k2,k3,k5,newId,initId,oN,esN,hC,FB,hN,⟨nN,rfl⟩,hSK,hNF⟩:=LK.cls
 rw [arm_exec_Raise]
 refine wpAny_bind (wpAny_standAt ?_)
 show wpAny _ _ (raiseStmt env (some (do let v ← eval (.Call (.Name "LispSignal" np) [.Constant (.str x) k cp,.List pes lp] [] cpos) env;standAt pos;pure v)) none) _ _ _
 refine raise_made (C:=cLisp) (nm:=nmC) (q:=q) (N:=NC) (bs:=bs) (bm:=[.type "Exception",.type "BaseException",.type "object"]) (hdct:=true) (sn:=sn) (sub:=sub) (ab:=ab) (col:=col) (dd:=dd) (k0:=k0) (k1:=k1) (k2:=k2) (k3:=k3) (k5:=k5) (newId:=newId) FB.hasBase D.handled ?_
 refine wpAny_bind ?_
 show wpAny _ _ (eval (.Name "LispSignal" np) env >>= fun fv=>callWith cpos fv [] (backTo cpos (starEach [.Constant (.str x) k cp,.List pes lp] env)) []) _ _ _
 refine wpAny_bind (glob_any G hm hj V I fun yf vrf=>?_)
 have hyf:=vrf Z
 simp only [VR] at hyf
 subst hyf
 refine callWith_of (P:=fun h=>g.K.In h) rfl (keeps_K LK.keep) (evalArgs_all rfl ?_)
 show wpAny _ _ (spliced [(false,eval (.Constant (.str x) k cp) env),(false,eval (.List pes lp) env)]) _ _ _
 refine spliced_cons (Constant_str ?_)
 have go1:Go Fc Z0 s0 Z { s with toks:=s.toks+1 }:=go.trans ⟨.refl _,.refl _ _,(in_AA rfl rfl rfl)⟩
 refine spliced_cons (List_ (Ss.stm D V w (s:={ s with toks:=s.toks+1 }) I LR go1 fun ys vs s1 Z1 H1 go2 I1 L1 u0 r w1=>?_))
 obtain ⟨sz,qx⟩:=w1
 have hl:=r.length
 refine wpAny_newObj_type ?_ (by show ys.toArray.size≤sizeLine;rw [List.size_toArray,sizeLine_eq];exact ln 0x1f041f1b010000003111b144012b1101120 rfl sz hl)
 have kp:Keeps s1.heap (s1.heap.push { cls:=.type "list",data:=.seq ys.toArray }):=keeps_push _ _
 have hB1:∀ b o,g.B.get? b=some o→s1.heap.get? b=some o:=fun b o e=>I1.zin _ _ (I1.base _ _ e)
 refine spliced_nil ⟨G.kin.keeps fun b o e=>kp _ _ (hB1 b o e),?_⟩
 generalize hH2:s1.heap.push { cls:=.type "list",data:=.seq ys.toArray }=h2 at kp
 have K2:g.K.In h2:=G.kin.keeps fun b o e=>kp _ _ (hB1 b o e)
 have hns:h2.Ns NC (fun y=>nsFind esN.toArray y):=(in_EEEAAA _ _ _ (K2 _ _ hN) rfl hSK (fun u0=>rfl))
 refine el_EA LK.icls fun oI hoI hfc=>?_
 show wpAny _ _ (call (.ref cLisp) [_,.ref s1.heap.objs.size]) _ _ ⟨h2,s1.gens,s1.drawn,s1.toks,s1.os⟩
 refine wpAny_call_exc_init (hrest:=by show (2:Nat)≤_;rw [sizeLine_eq];exact by exact Nat.le_of_ble_eq_true rfl) FB (K2 _ _ hC) hns hNF (K2 _ _ hoI) hfc fun h' e hm'=>?_
 refine el_EAA hm'.there fun t ht1 ht2 ht3=>?_
 have hne:s1.heap.get? e=none:=by
  cases q:s1.heap.get? e with
  | none=>rfl
  | some o=>have:=kp _ _ q;rw [hm'.new] at this;trivial
 have zBe:g.B.get? e=none:=by
  cases q:g.B.get? e with
  | none=>rfl
  | some o=>have:=hB1 _ _ q;rw [hne] at this;trivial
 have kp2:Keeps s1.heap h':=kp.trans hm'.keeps
 refine wpAny_mono (lisp_init G LK (s:=⟨h',s1.gens,s1.drawn,s1.toks,s1.os⟩) (vs:=#[.ref t,.none,.none,.none,.bool false,.none]) (by have:=D.depth;rw [depth_under_make];exact ln 0x41f0b21912010b21900000014390471101130 rfl this) zBe (fun b o q=>kp2 _ _ (hB1 b o q)) ht1) (fun r s2 q=>?_) fun u0 u0 x=>x.elim
 refine el_AAA q fun rf0 sm kp3 rt3=>?_;subst rf0;obtain ⟨dx,es2,n2,hdx,g1,g2,g3⟩:=rt3
 refine ⟨rfl,?_⟩
 have kp4:Keeps s1.heap s2.heap:=fun b o q=>kp3 b o (fun q'=>by rw [q',hne] at q;trivial) (kp2 b o q)
 have hdx1:s1.heap.get? dx=none:=by
  cases q:s1.heap.get? dx with
  | none=>rfl
  | some o=>have:=kp2 _ _ q;rw [hdx] at this;trivial
 have hed:e≠dx:=fun q=>by rw [q] at ht1;rw [ht1] at hdx;trivial
 have zdx:=(I1.hNone hdx1).2.1
 have ze:=(I1.hNone hne).2.1
 refine wpAny_bind (wpAny_standAt (wpAny_pure (in_EEEAAA e t dx rfl (kp4 _ _ (hB1 _ _ (G.kin _ _ hC))) g1 ⟨x,put Z1 dx (dictOf es2 n2),H1,?_,I1.freezeNew kp4 hdx1 g2,?_,qx⟩)))
 ·exact go2.trans ⟨Ext.put zdx,.of_keeps kp4,(in_AA sm.1 sm.2.1 sm.2.2)⟩
 ·exact ⟨e,_,_,dx,es2,n2,_,rfl,g1,rfl,rfl,by show 5 < 6;exact Nat.lt_succ_self _,by rw [put_ne hed];exact ze,rfl,put_at,g3,.inl rfl⟩
end
end Mine
namespace Mine
theorem dict_mapFields (o:Obj) (f):(o.mapFields f).dict=o.dict:=by unfold Obj.mapFields;split<;>rfl
inductive LeftX (fr:List Addr) (e:Addr) (oe:Obj) (vs:Array Value) (h h':Heap):Prop
 | mk (T:Addr) (oT:Obj) (ts:Array Value) (oe':Obj) (t1:h.get? T=none) (t2:∀ b o,b∉fr→b≠e→h.get? b=some o→h'.get? b=some o) (t3:∀ b o,b≠e→h.get? b=some o→∃ sl,h'.get? b=some { o with slots:=sl })
  (t4:h'.get? e=some oe') (t5:oe'.cls=oe.cls) (t6:oe'.dict=oe.dict) (t7:oe'.data=.fields (vs.setIfInBounds 1 (.ref T))) (t8:h'.get? T=some oT) (t9:oT.data=.fields ts) (t10:ts[3]?=some .none):LeftX fr e oe vs h h'
section
variable {M:Model} {A:Around} {E:Value→Shared→Prop} {s:Shared}
theorem leave_entry {base:Heap} {env:Env} {outer:List Env} {L e:Addr} {oe:Obj} {vs:Array Value} {head:Value} {hadNext:Bool} {Q:Unit→Shared→Prop}
  (hfr:A.frames=some (env::outer)) (hl:s.heap.FunFrames base (env::outer)) (hf:env.frame=some L)
  (he:s.heap.get? e=some oe) (hd:oe.data=.fields vs) (hsz:1 < vs.size)
  (h:∀ h',LeftX ((env::outer).filterMap (·.frame)) e oe vs s.heap h'→Q () { s with heap:=h' }) :
  wpAny M A (do let a ← frameOf env;let pl ← entryPlaceOf L hadNext;let b ← EntryCells.newEntry head a .none (rawInt L) .none pl;setField (.ref e) 1 b) (fun u0 s'=>wpAny M A (setFlight (.ref e) none) Q E s') E s:=by
 have hene:e∉(env::outer).filterMap (·.frame):=fun hm=>by
  obtain ⟨_,o,ho,hnf⟩:=hl.mem hm
  rw [he] at ho;injection ho with ho;subst ho;exact hnf vs hd
 refine wpAny_bind (wpAny_frameOf_fun hfr hl hf fun h₁ hs₁=>?_)
 refine wpAny_bind (wpAny_entryPlaceOf fun pl hpl=>?_)
 unfold EntryCells.newEntry newFields
 refine wpAny_bind (wpAny_newObj_type ?_ (hpl.sizeOk5 _ _ _ _ _))
 have he₁:h₁.get? e=some oe:=(hs₁.2.1 e hene).trans he
 have he₂:=Heap.get?_push_of_some (h:=h₁) { cls:=.type "traceback",dict:=none,data:=.fields ([head,.ref L,.none,rawInt L,.none]++(if pl.isEmpty then List.replicate 6 Value.none else pl)).toArray } he₁
 refine wpAny_setField he₂ hd hsz ?_
 have hTe:h₁.objs.size≠e:=Nat.ne_of_gt (Heap.lt_size he₁)
 have hd₃:=Obj.data_mapFields hd (·.setIfInBounds 1 (Value.ref h₁.objs.size))
 have he₃:=Heap.get?_update_self (Obj.mapFields (·.setIfInBounds 1 (Value.ref h₁.objs.size))) he₂ (Obj.isFreed_of_fields hd₃)
 have hT₃:=(Heap.get?_update_other (h₁.push { cls:=.type "traceback",dict:=none,data:=.fields ([head,.ref L,.none,rawInt L,.none]++(if pl.isEmpty then List.replicate 6 Value.none else pl)).toArray })
  (Obj.mapFields (·.setIfInBounds 1 (Value.ref h₁.objs.size))) (Ne.symm hTe)).trans (Heap.get?_push_size h₁ rfl)
 unfold setFlight
 refine wpAny_bind (wpAny_field he₃ hd₃ (x:=.ref h₁.objs.size) (by simp [hsz]) ?_)
 rw [if_pos (show (Value.ref h₁.objs.size != Value.none)=true from by rfl)]
 refine wpAny_setField hT₃ rfl (by simp only [List.size_toArray,List.length_append,List.length_cons,List.length_nil]<;>exact ln 0x1f0b9019129129129129120232110 rfl) (h _ ?_)
 have keep:∀ b o,b≠e→h₁.get? b=some o →
   (((h₁.push { cls:=.type "traceback",dict:=none,data:=.fields ([head,.ref L,.none,rawInt L,.none]++(if pl.isEmpty then List.replicate 6 Value.none else pl)).toArray }).update e (Obj.mapFields (·.setIfInBounds 1 (Value.ref h₁.objs.size)))).update h₁.objs.size
    (Obj.mapFields (·.setIfInBounds 3 ((none:Option Addr).elim Value.none fun f=>rawInt f)))).get? b=some o:=fun b o hbe hb=>by
  have hbT:h₁.objs.size≠b:=Nat.ne_of_gt (Heap.lt_size hb)
  rw [Heap.get?_update_other _ _ hbT,Heap.get?_update_other _ _ (Ne.symm hbe)]
  exact Heap.get?_push_of_some _ hb
 have hTn:s.heap.get? h₁.objs.size=none:=by
  cases q:s.heap.get? h₁.objs.size with
  | none=>rfl
  | some o=>have:=Heap.lt_size q;rw [hs₁.1] at this;exact absurd this (Nat.lt_irrefl _)
 refine ⟨h₁.objs.size,_,_,_,hTn,fun b o hb hbe e1=>keep b o hbe ((hs₁.2.1 b hb).trans e1),fun b o hbe e1=>?_,?_,Obj.cls_mapFields _ _,dict_mapFields _ _,hd₃,Heap.get?_update_self _ hT₃ (Obj.isFreed_of_fields (Obj.data_mapFields rfl _)),Obj.data_mapFields rfl _,?_⟩
 ·obtain ⟨sl,hs⟩:=hs₁.2.2 b o e1
  exact ⟨sl,keep b _ hbe hs⟩
 ·rw [Heap.get?_update_other _ _ hTe];exact he₃
 ·rfl
end
end Mine
namespace Mine
section
variable {M:Model} {A:Around} {E:Value→Shared→Prop} {s:Shared}
theorem ns_slots {h h':Heap} {b:Addr} (k:∀ o,h.get? b=some o→∃ sl,h'.get? b=some { o with slots:=sl }) {m:Str→Option Value} (n:h.Ns b m):h'.Ns b m:=by
 refine el_EEEAA n fun o es ep e d r=>?_
 obtain ⟨sl,e'⟩:=k o e
 exact (in_EEEAA _ es ep e' d r)
theorem Inv.left {prog:Program} {w:World} {B:Heap} {Fs:List Addr} {Z:Zone} {H:Hp} {h h':Heap} (I:Inv prog w B Fs Z H h) (hk:∀ b o,b∉Fs→(∀ vs,o.data≠.fields vs)→h.get? b=some o→h'.get? b=some o)
  (hz:∀ b o,Z b=some o→h'.get? b=some o) (hs:∀ b∈Fs,∀ o,h.get? b=some o→∃ sl,h'.get? b=some { o with slots:=sl }):Inv prog w B Fs Z H h':=by
 obtain ⟨bb,z,f,δ,o1,o2,o3⟩:=I
 have hF:∀ a o,H a=some o→a∉Fs:=fun a o e q=>by have:=(f a q).2.1;rw [e] at this;trivial
 refine ⟨bb,hz,fun b hb=>(in_AA ((f b hb).1) ((f b hb).2.1) ?_),δ,fun a o e=>⟨?_,(o1 a o e).2⟩,o2,o3⟩
 ·obtain ⟨m,n⟩:=(f b hb).2.2
  exact ⟨m,ns_slots (hs b hb) n⟩
 ·have r:=(o1 a o e).1
  cases o with
  | list xs=>
   refine el_EEA r fun ys n e1 e2=>?_
   exact (in_EEA ys n (hk a _ (hF a _ e) (fun u0 q=>by trivial) e1) e2)
  | dict es=>
   refine el_EEAA r fun o kvs e1 e2 e3=>?_
   refine (in_EEAA o kvs (hk a _ (hF a _ e) (fun u0 q=>?_) e1) e2 e3)
   refine el_EEAA e2 fun es' ep u0 d u0=>?_
   rw [d] at q;trivial
  | inst C fs=>
   refine el_AA r fun e1 rt1 e4=>?_;obtain ⟨es,n,e2,e3⟩:=rt1
   exact (in_AA (hk a _ (hF a _ e) (fun u0 q=>by trivial) e1) (in_EEA es n (hk _ _ (o3 a C fs e).2.2 (fun u0 q=>by trivial) e2) e3) e4)
end
section
variable {g:G} {nm:List (Str × NameKind)}
theorem leave_exc {A:Around} {L:Addr} {Fc:List Addr} {env:Env} {outer:List Env} {n:Nat} {Z0:Zone} {s0 s:Shared} {X:QX} {e:Value} {E:Value→Shared→Prop} (D:Gd A (L::Fc) n) (hfr:A.frames=some (env::outer)) (hfe:env.frame=some L) (h:ExS g L Fc Z0 s0 X e s) :
  wpAny (model g.prog g.w) A (leaving env e) (fun u0 s'=>ExE g Fc Z0 s0 X e s') E s:=by
 obtain ⟨sym,Z,H,go,I,⟨a,oe,vs,dx,es,nn,t,rfl,he,hc,hd,h5,za,hdx,zdx,hg,hT⟩,q⟩:=h
 refine el_EAA D.frames fun fl hfl hFs hfk=>?_
 rw [hfr] at hfl
 cases hfl
 have hFm:∀ b,b∈L::Fc↔b∈(env::outer).filterMap (·.frame):=fun b=>by rw [hFs]
 have hfun:∀ h:Heap,(∀ b∈L::Fc,∃ m,h.Ns b m)→h.FunFrames ⟨#[],{}⟩ (env::outer):=by
  intro h hn
  have:∀ l:List Env,(∀ c∈l,c.scope.kind≠.module∧∃ L,c.frame=some L)→(∀ b∈l.filterMap (·.frame),∃ m,h.Ns b m)→h.FunFrames ⟨#[],{}⟩ l:=by
   intro l
   induction l with
   | nil=>intro _ _;trivial
   | cons c r ih=>
    intro h1 h2
    obtain ⟨k1,L',k2⟩:=h1 c (.head _)
    refine el_EEEEAA (h2 L' (by rw [List.filterMap_cons,k2];exact .head _)) fun m o es ep e1 e2 u0=>?_
    refine (in_AA k1 (in_EEAAA L' o k2 ?_ e1 (fun vs q=>by rw [e2] at q;trivial)) (ih (fun c hc=>h1 c (.tail _ hc)) fun b hb=>h2 b (by rw [List.filterMap_cons,k2];exact .tail _ hb)))
    exact get_ge (Nat.zero_le _)
  exact this _ hfk fun b hb=>hn b ((hFm b).mpr hb)
 have nsF:∀ b∈L::Fc,∃ m,s.heap.Ns b m:=fun b hb=>(I.frs b hb).2.2
 have aF:a∉L::Fc:=fun hb=>by
  refine el_EEEEAA (nsF a hb) fun m o es' ep e1 e2 u0=>?_
  rw [he] at e1;cases e1;rw [hd] at e2;trivial
 have zF:∀ b o,Z b=some o→b∉L::Fc:=fun b o e hb=>by rw [(I.frs b hb).1] at e;trivial
 have fin:∀ h',(∀ b o,b∉L::Fc→(∀ vs,o.data≠.fields vs)→s.heap.get? b=some o→h'.get? b=some o)→(∀ b o,Z b=some o→h'.get? b=some o)→(∀ b∈L::Fc,∀ o,s.heap.get? b=some o→∃ sl,h'.get? b=some { o with slots:=sl }) →
   ∀ T oT ts oe',s.heap.get? T=none→h'.get? a=some oe'→oe'.cls=oe.cls→oe'.dict=oe.dict→oe'.data=.fields (vs.setIfInBounds 1 (.ref T))→h'.get? T=some oT→oT.data=.fields ts→ts[3]?=some .none→ExE g Fc Z0 s0 X (.ref a) { s with heap:=h' }:=by
  intro h' k1 k2 k3 T oT ts oe' t1 t2 t3 t4 t5 t6 t7 t8
  refine ⟨sym,Z,H,⟨go.ext,fun b hb m e=>ns_slots (k3 b (.tail _ hb)) (go.frk b hb m e),go.same.trans (in_AA rfl rfl rfl)⟩,(I.left k1 k2 k3).tail,⟨a,oe',_,dx,es,nn,t,rfl,t2,t3.trans hc,t5,by simp;exact h5,za,t4.trans hdx,zdx,hg,.inr (in_EEEAAA T oT ts ?_ (fun q=>?_) ((I.hNone t1).2.1) ⟨t6,t7,t8⟩)⟩,q⟩
  ·rw [Array.getElem?_setIfInBounds_self_of_lt (by exact ln 0x41f0b01120b0152110 rfl h5)]
  ·rw [q,he] at t1;trivial
 rcases hT with h1 | ⟨T,oT,ts,h1,hTa,zT,hTo,hTd,hT3⟩
 ·unfold leaving noteFrame
  simp only [hfe]
  refine wpAny_bind (wpAny_bind (wpAny_field he hd h1 ?_))
  rw [if_neg (by exact Bool.noConfusion)]
  refine leave_entry hfr (hfun s.heap nsF) hfe he hd (ln 0x41f0b01120b0152110 rfl h5) fun h' hx=>?_
  cases hx with | mk T oT ts oe' t1 t2 t3 t4 t5 t6 t7 t8 t9 t10=>
  have t2':∀ b o,b∉L::Fc→b≠a→s.heap.get? b=some o→h'.get? b=some o:=fun b o hb=>t2 b o (fun q=>hb ((hFm b).mpr q))
  refine fin h' (fun b o hb hn e=>t2' b o hb (fun q=>hn vs (by rw [q,he] at e;cases e;exact hd)) e) (fun b o e=>t2' b o (zF b o e) (fun q=>by rw [q,za] at e;trivial) (I.zin _ _ e)) (fun b hb o e=>t3 b o (neF hb aF) e) T oT ts oe' t1 t4 t5 t6 t7 t8 t9 t10
 ·unfold leaving noteFrame
  simp only [hfe]
  refine wpAny_bind (wpAny_bind (wpAny_field he hd h1 ?_))
  rw [if_pos (show (Value.ref T != Value.none)=true from by rfl)]
  refine wpAny_bind (wpAny_field hTo hTd hT3 ?_)
  rw [if_neg (show ¬ ((Value.none==rawInt L)=true) from by exact Bool.noConfusion)]
  refine wpAny_bind (wpAny_setField hTo hTd (Array.getElem?_eq_some_iff.mp hT3).1 ?_)
  have oth:∀ b,b≠T→(s.heap.update T (Obj.mapFields (·.setIfInBounds 3 Value.none))).get? b=s.heap.get? b:=fun b hb=>Heap.get?_update_other _ _ (Ne.symm hb)
  have TF:∀ b∈L::Fc,b≠T:=fun b hb q=>by
   refine el_EEEEAA (nsF b hb) fun m o es' ep e1 e2 u0=>?_
   rw [q,hTo] at e1;cases e1;rw [hTd] at e2;trivial
  have nsF2:∀ b∈L::Fc,∃ m,(s.heap.update T (Obj.mapFields (·.setIfInBounds 3 Value.none))).Ns b m:=fun b hb=>by
   refine el_EEEEA (nsF b hb) fun m o es' ep e1 e2=>?_
   exact (in_EEEEA m o es' ep ((oth b (TF b hb)).trans e1) e2)
  have hTn:∀ b,s.heap.get? b=none→(s.heap.update T (Obj.mapFields (·.setIfInBounds 3 Value.none))).get? b=none:=fun b e=>(oth b (fun q=>by rw [q,hTo] at e;trivial)).trans e
  refine leave_entry (s:={ s with heap:=s.heap.update T (Obj.mapFields (·.setIfInBounds 3 Value.none)) }) hfr (hfun _ nsF2) hfe ((oth a (Ne.symm hTa)).trans he) hd (ln 0x41f0b01120b0152110 rfl h5) fun h' hx=>?_
  cases hx with | mk T' oT' ts' oe' t1 t2 t3 t4 t5 t6 t7 t8 t9 t10=>
  have t2':∀ b o,b∉L::Fc→b≠a→b≠T→s.heap.get? b=some o→h'.get? b=some o:=fun b o hb h1 h2 e=>t2 b o (fun q=>hb ((hFm b).mpr q)) h1 ((oth b h2).trans e)
  refine fin h' (fun b o hb hn e=>t2' b o hb (fun q=>hn vs (by rw [q,he] at e;cases e;exact hd)) (fun q=>hn ts (by rw [q,hTo] at e;cases e;exact hTd)) e)
   (fun b o e=>t2' b o (zF b o e) (fun q=>by rw [q,za] at e;trivial) (fun q=>by rw [q,zT] at e;trivial) (I.zin _ _ e)) (fun b hb o e=>t3 b o (neF hb aF) ((oth b (TF b hb)).trans e)) T' oT' ts' oe' ?_ t4 t5 t6 t7 t8 t9 t10
  cases q':s.heap.get? T' with
  | none=>rfl
  | some o=>
   by_cases q2:T'=T
   ·rw [q2] at t1
    have:=Heap.get?_update_self (Obj.mapFields (·.setIfInBounds 3 Value.none)) hTo (Obj.isFreed_of_fields (Obj.data_mapFields hTd _))
    change (s.heap.update T (Obj.mapFields (·.setIfInBounds 3 Value.none))).get? T=none at t1
    rw [t1] at this;trivial
   ·have:=(oth T' q2).trans q'
    change (s.heap.update T (Obj.mapFields (·.setIfInBounds 3 Value.none))).get? T'=none at t1
    rw [t1] at this;trivial
structure CallC (g:G) (n:Nat) (f:Addr) (args:List V) (Q:QV) (X:QX) (H:Hp):Prop where
 go:∀ (A:Around) (Fs:List Addr) (s:Shared) (Z:Zone) (ys:List Value),Gd A Fs n→Inv g.prog g.w g.B Fs Z H s.heap→VRs Z args ys →
  codeAny (model g.prog g.w) A (.call (.ref f) ⟨ys,[]⟩) (fun r s'=>match r with | .ok (.ret v)=>OkE g Fs Z s Q v s' | .ok _=>False | .error e=>ExE g Fs Z s X e s') s
theorem CallC.w {n:Nat} {f:Addr} {args:List V} {Q:QV} {X:QX} {H:Hp} (h:CallC g n f args Q X H):CallW g n f args Q X H:=
 ⟨fun A Fs s Z ys D I r=>wpAny_call (h.go A Fs s Z ys D I r)⟩
theorem callC_def (G:GlobOk g) {f:Addr} {params:Arguments} {body:List Stmt} {scope:Scope} {pn:List Str} {dv:List V} (K:DefK g f params body scope pn dv) {b:List S} (Sb:SndSs g scope.names body b) {n:Nat} {args:List V} {Q:QV} {X:QX} {H:Hp}
  (hl:args.length+dv.length=pn.length) (w:wSs g n b (startLoc (args++dv) scope.names.length) (fun u0 H=>Q .none H) Q X H):CallC g (n+1) f args Q X H:=by
 refine ⟨fun A Fs s Z ys D I r=>?_⟩
 obtain ⟨oc,od,osl,name,qual,dV,kV,doc,pm,an,cdv,ct,hlk,hcd,hb⟩:=K.lk
 have kB:∀ b o,g.B.get? b=some o→s.heap.get? b=some o:=fun b o e=>I.zin _ _ (I.base _ _ e)
 have K1:g.K.In s.heap:=G.kin.keeps kB
 have hlen:=r.length
 refine el_EA (hb s ys K1 (ln 0x7e10617c1f2b31921112b31921012b1101140 rfl hl hlen)) fun ds hds hbind=>?_
 have hdl:=(hds Z).length
 have hpl:pn.length=(ys++ds).length:=by rw [List.length_append];exact ln 0x8617c17df841f2b91131412b41901212b31212b1101150 rfl hl hlen hdl
 have hpm:(pn.zip (ys++ds)).map (·.1)=pn:=by rw [List.map_fst_zip];exact ln 0x841f1b11012b1101120 rfl hpl
 have pnd:pn.Nodup:=by
  have h1:pn=(scope.names.take pn.length).map (·.1):=by rw [K.ps,List.map_map];simp [Function.comp_def]
  rw [h1,List.map_take]
  exact (List.take_sublist _ _).nodup K.nd
 have hloc:∀ x∈pn.zip (ys++ds),scope.names.lookup x.1=some .local:=fun x hx=>by
  have h1:x.1∈pn:=by rw [← hpm];exact List.mem_map_of_mem hx
  refine lookup_mem K.nd (List.mem_of_mem_take (i:=pn.length) ?_)
  rw [K.ps]
  exact List.mem_map.mpr (in_EA x.1 h1 rfl)
 refine codeAny_call_def (fd:=fnOf name qual params body scope dV kV doc pm an cdv ct) (body:=body) (by have:=D.depth;exact ln 0x41f0b21010b21900000014390479121101130 rfl this) (K1 _ _ hlk) rfl (G.lim.keeps kB) (codeRec_of K1 hcd) rfl hbind K.nc hloc (fun h0 hns hk=>?_) K.co K.ge K.kd
 have hLn:=size_none s.heap
 have V:EnvOk (callEnv (fnOf name qual params body scope dV kV doc pm an cdv ct) s.heap.objs.size f) scope.names:=⟨rfl,K.kd,rfl,rfl,K.nd,fun x hx=>absurd rfl (K.nc _ hx),K.db⟩
 have nL:s.heap.objs.size∉Fs:=(I.hNone hLn).2.2
 have O:FnOk (callEnv (fnOf name qual params body scope dV kV doc pm an cdv ct) s.heap.objs.size f) s.heap.objs.size Fs Z:=⟨rfl,nL,fun x c e=>(by trivial),fun x y c e=>(by trivial)⟩
 refine el_EAA D.frames fun fl fr1 fr2 fr3=>?_
 have D':Gd (A.deeper (callEnv (fnOf name qual params body scope dV kV doc pm an cdv ct) s.heap.objs.size f)) (s.heap.objs.size::Fs) n:=by
  refine ⟨(in_EAA _ (Around.frames_deeper fr1) ?_ ?_),D.handled,?_,?_⟩
  ·rw [List.filterMap_cons];rw [fr2];rfl
  ·intro env he
   rcases List.mem_cons.mp he with rfl | he
   ·exact ⟨by show scope.kind≠_;rw [K.kd];decide,_,rfl⟩
   ·exact fr3 env he
  ·have:=D.depth;show A.depth+1+4*n+20 < _;exact ln 0x41f0b219000000143904711912010b21900000014390479121101130 rfl this
  ·have:=D.units;show A.units+3+20*n+100 < _;exact ln 0x41f0b219000000643914711932010b21900000064391479121101130 rfl this
 have I1:=I.enter hk hLn hns
 have go0:Go Fs Z s Z { s with heap:=h0,toks:=s.toks+(pn.zip (ys++ds)).length }:=⟨.refl _,.of_keeps hk,(in_AA rfl rfl rfl)⟩
 have vall:VRs Z (args++dv) (ys++ds):=r.append (hds Z)
 have LR:LocR scope.names (callEnv (fnOf name qual params body scope dV kV doc pm an cdv ct) s.heap.objs.size f) (startLoc (args++dv) scope.names.length) (s.heap.objs.size::Fs) Z h0:=by
  refine ⟨(in_EA _ hns (fun i x v h1 h2=>?_)),fun i x k v h1 h2 h3=>?_,.inl (.head _),fun x c e=>(by trivial)⟩
  ·have hi:(args++dv)[i]?=some v:=by
    unfold startLoc at h2
    rw [List.getElem?_append] at h2
    split at h2
    ·rw [List.getElem?_map] at h2
     cases q:(args++dv)[i]? with
     | none=>rw [q] at h2;trivial
     | some u=>rw [q] at h2;simp only [Option.map_some,Option.some.injEq] at h2;exact congrArg _ h2
    ·rw [List.getElem?_replicate] at h2;split at h2<;>cases h2
   refine el_EA (vall.get hi) fun y e1 e2=>?_
   refine (in_EA y (lookup_rev (by rw [hpm];exact pnd) (binds_look pnd (i:=i) ?_ e1)) e2)
   have hip:i < pn.length:=by
    rw [hpl];exact (List.getElem?_eq_some_iff.mp e1).1
   have:(scope.names.take pn.length)[i]?=some (x,NameKind.local):=by rw [List.getElem?_take_of_lt hip];exact h1
   rw [K.ps,List.getElem?_map] at this
   cases q:pn[i]? with
   | none=>rw [q] at this;trivial
   | some u=>rw [q] at this;simp only [Option.map_some,Option.some.injEq,Prod.mk.injEq] at this;rw [this.1]
  ·-- no cells,no free names bound
   unfold startLoc at h3
   have hi:i < pn.length:=by
    rw [List.getElem?_append] at h3
    split at h3
    ·rename_i q;rw [List.length_map,List.length_append] at q;exact ln 0x1841f0b31012b31921110b9211101140 rfl hl q
    ·rw [List.getElem?_replicate] at h3;split at h3<;>cases h3
   have:(scope.names.take pn.length)[i]?=some (x,k):=by rw [List.getElem?_take_of_lt hi];exact h1
   rw [K.ps,List.getElem?_map] at this
   cases q:pn[i]? with
   | none=>rw [q] at this;trivial
   | some u=>rw [q] at this;simp only [Option.map_some,Option.some.injEq,Prod.mk.injEq] at this;rw [← this.2] at h2;rcases h2 with h2 | h2<;>trivial
 refine wpAny_mono (Sb n _ _ Fs _ _ Z s _ Z H _ Q X D' V O I.base w go0 I1 LR) (fun fl' s' q=>?_) fun e s' q=>?_
 ·cases fl' with
  | next=>
   obtain ⟨m',Z',H',go1,I',-,q⟩:=q
   exact ⟨.none,Z',H',go1,I'.tail,by rfl,q⟩
  | ret y=>
   obtain ⟨v,Z',H',go1,I',vr,q⟩:=q
   exact ⟨v,Z',H',go1,I'.tail,vr,q⟩
  | _=>exact q.elim
 ·exact wpAny_mono (leave_exc (E:=fun e' s''=>False) D' (Around.frames_deeper fr1) rfl q) (fun u0 u0 x=>x) fun u0 u0 x=>x.elim
theorem callW_def (G:GlobOk g) {f:Addr} {params:Arguments} {body:List Stmt} {scope:Scope} {pn:List Str} {dv:List V} (K:DefK g f params body scope pn dv) {b:List S} (Sb:SndSs g scope.names body b) {n:Nat} {args:List V} {Q:QV} {X:QX} {H:Hp}
  (hl:args.length+dv.length=pn.length) (w:wSs g n b (startLoc (args++dv) scope.names.length) (fun u0 H=>Q .none H) Q X H):CallW g (n+1) f args Q X H:=(callC_def G K Sb hl w).w
theorem Inv.instNew {prog:Program} {w:World} {B:Heap} {Fs:List Addr} {Z:Zone} {H:Hp} {h h':Heap} {a d C:Addr} (I:Inv prog w B Fs Z H h) (k:Keeps h h') (h3:3 < a) (ha:h.get? a=none) (hd:h.get? d=none) (had:a≠d)
  (h1:h'.get? a=some (instObj C d)) (h2:h'.get? d=some (dictOf [] 0)):Inv prog w B Fs Z (put H a (.inst C [])) h':=by
 refine el_AA (I.hNone ha) fun n1 n2 n3=>?_
 refine el_AA (I.hNone hd) fun d1 d2 d3=>?_
 have I':=I.grow k
 obtain ⟨b,z,f,δ,o1,o2,o3⟩:=I
 obtain ⟨b',z',f',-⟩:=I'
 have hδa:∀ x C fs,H x=some (.inst C fs)→δ x≠a∧δ x≠d:=fun x C fs e=>by
  refine el_AA ((o1 x _ e).1) fun u0 rt1 u0=>?_;obtain ⟨es,n,e2,-⟩:=rt1
  exact ⟨fun q=>(by rw [q,ha] at e2;trivial),fun q=>(by rw [q,hd] at e2;trivial)⟩
 have hx:∀ x o,H x=some o→x≠a:=fun x o e q=>by rw [q,n1] at e;trivial
 have hxd:∀ x o,H x=some o→x≠d:=fun x o e q=>by rw [q,d1] at e;trivial
 refine ⟨b,z',fun x hx=>(in_AA ((f x hx).1) ?_ ((f' x hx).2.2)),fun x=>if x=a then d else δ x,fun x y e=>?_,fun x x' C1 f1 C2 f2 e e' q=>?_,fun x C1 f1 e=>?_⟩
 ·rw [put_ne (neF hx n3)];exact (f x hx).2.1
 ·by_cases q:x=a
  ·subst q;rw [put_at] at e;cases e
   refine (in_AA (in_AA ?_ (in_EEAA ([]) 0 ?_ (by exact Nat.zero_le _) rfl) (fun p hp=>nomatch hp)) n2 h3)
   ·simpa using h1
   ·simpa using h2
  ·rw [put_ne q] at e
   have r:=(o1 x y e).1
   refine ⟨?_,(o1 x y e).2⟩
   have:ObjR prog w Z δ h' x y:=r.mono (fun u0 u0 u0 u0 e u0=>e) (fun z=>k _ z) (fun u0 u0 u0 z=>k _ z)
   cases y with
   | list xs=>exact this
   | dict es=>exact this
   | inst C fs=>simpa only [ObjR,q,if_false] using this
 ·by_cases q1:x=a
  ·by_cases q2:x'=a
   ·rw [q1,q2]
   ·rw [put_ne q2] at e'
    simp only [q1,q2,if_true,if_false] at q
    exact absurd q.symm (hδa x' _ _ e').2
  ·rw [put_ne q1] at e
   by_cases q2:x'=a
   ·simp only [q1,q2,if_true,if_false] at q
    exact absurd q (hδa x _ _ e).2
   ·rw [put_ne q2] at e'
    simp only [q1,q2,if_false] at q
    exact o2 x x' _ _ _ _ e e' q
 ·by_cases q:x=a
  ·subst q
   simp only [if_true]
   exact (in_AA d2 (by rw [put_ne (Ne.symm had)];exact d1) d3)
  ·rw [put_ne q] at e
   simp only [q,if_false]
   exact (in_AA ((o3 x C1 f1 e).1) (by rw [put_ne (hδa x _ _ e).1];exact (o3 x C1 f1 e).2.1) ((o3 x C1 f1 e).2.2))
structure ClsK (g:G) (C fI:Addr):Prop where
 mks:makesIn g.K C=true
 ini:findIn g.K (.ref C) "__init__"=some (some (.ref fI))
 ty:typeIn g.K (.ref fI)=some (.type "function")
theorem callW_cls (G:GlobOk g) {C fI:Addr} (K:ClsK g C fI) {n:Nat} {args:List V} {Q:QV} {X:QX} {H:Hp} (w:∀ a,H a=none→CallC g n fI (.ref a::args) (fun v H'=>v=.none∧Q (.ref a) H') X (put H a (.inst C []))):CallW g (n+1) C args Q X H:=by
 refine ⟨fun A Fs s Z ys D I r=>?_⟩
 have K1:g.K.In s.heap:=G.kin.keeps fun b o e=>I.zin _ _ (I.base _ _ e)
 obtain ⟨hh,gg,d,t,os⟩:=s
 refine wpAny_call (make_core (makes_of K1 K.mks) (looks_findIn K1 K.ini) (fun self=>bind_fn K1 self K.ty) (.inl rfl) ?_)
 have hd:hh.get? hh.objs.size=none:=size_none hh
 have ha:hh.get? (hh.objs.size+1)=none:=get_ge (Nat.le_succ _)
 have kp:Keeps hh ((hh.push emptyDict).push (instObj C hh.objs.size)):=push_keeps (push_keeps (Keeps.refl _))
 have h1:((hh.push emptyDict).push (instObj C hh.objs.size)).get? (hh.objs.size+1)=some (instObj C hh.objs.size):=by heap_get
 have h2:((hh.push emptyDict).push (instObj C hh.objs.size)).get? hh.objs.size=some (dictOf [] 0):=Heap.get?_push_of_some _ (Heap.get?_push_size _ rfl)
 have I1:=I.instNew kp (I.three G.three (Nat.le_succ _)) ha hd (Nat.succ_ne_self _) h1 h2
 have D1:Gd (A.under (.builtin "type.__call__" ⟨.ref C::ys,[]⟩)) Fs n:=by
  refine ⟨?_,D.handled,?_,?_⟩
  ·refine el_EAA D.frames fun fl f1 f2 f3=>?_
   exact (in_EAA fl f1 f2 f3)
  ·have:=D.depth;rw [depth_under_make];exact ln 0x41f0b219000000143904711912010b21900000014390479121101130 rfl this
  ·have:=D.units;rw [units_under_make];exact ln 0x41f0b219000000643914711912010b21900000064391479121101130 rfl this
 refine codeAny_mono ((w _ (I.hNone ha).1).go _ Fs ⟨(hh.push emptyDict).push (instObj C hh.objs.size),gg,d,t,os⟩ Z (.ref (hh.objs.size+1)::ys) D1 I1 (.cons (by simp only [VR]) r)) fun r s' q=>?_
 have go0:Go Fs Z ⟨hh,gg,d,t,os⟩ Z ⟨(hh.push emptyDict).push (instObj C hh.objs.size),gg,d,t,os⟩:=⟨.refl _,.of_keeps kp,(in_AA rfl rfl rfl)⟩
 cases r with
 | error e=>exact ExE.step go0 q
 | ok f=>
  cases f with
  | ret v=>
   obtain ⟨u,Z',H',go1,I',vr,rfl,q⟩:=q
   simp only [VR] at vr
   exact ⟨vr,.ref (hh.objs.size+1),Z',H',go0.trans go1,I',by simp only [VR],q⟩
  | _=>exact q.elim
end
end Mine
namespace Mine
theorem closure_go {env:Env}:∀ (names:List (Str × NameKind)) (acc:List (Str × Addr)),(∀ x,(x,NameKind.free)∈names→(env.cells.lookup x).isSome=true)→(∀ x c,acc.lookup x=some c→env.cells.lookup x=some c) →
  ∃ cl,(forIn names acc fun (p:Str × NameKind) (r:List (Str × Addr))=>match p with
   | (name,kind)=>if (kind==NameKind.free)=true then do let c ← cellOf env name;pure (ForInStep.yield ((name,c)::r)) else pure (ForInStep.yield r))=(pure cl:Sem _)∧(∀ x,(x,NameKind.free)∈names→cl.lookup x=env.cells.lookup x)∧(∀ x c,acc.lookup x=some c→cl.lookup x=some c)∧(∀ x c,cl.lookup x=some c→env.cells.lookup x=some c)
 | []=>@fun acc u0 ha=>(in_EAAA acc (by rfl) (fun x hx=>(by cases hx)) (fun u0 u0 h=>h) ha)
 | (n,k)::r=>@fun acc hn ha=>by
  rw [List.forIn_cons]
  by_cases hk:(k==NameKind.free)=true
  ·obtain rfl:k=NameKind.free:=beq_iff_eq.mp hk
   obtain ⟨c,hc⟩:=Option.isSome_iff_exists.mp (hn n (.head _))
   have ha':∀ x c',((n,c)::acc).lookup x=some c'→env.cells.lookup x=some c':=fun x c' h=>by
    rw [List.lookup_cons] at h
    by_cases q:(x==n)=true
    ·rw [q] at h;cases h;rw [beq_iff_eq.mp q];exact hc
    ·rw [Bool.not_eq_true] at q;rw [q] at h;exact ha x c' h
   refine el_EAAA (closure_go r ((n,c)::acc) (fun x hx=>hn x (.tail _ hx)) ha') fun cl h1 h2 h3 h4=>?_
   refine (in_EAAA cl ?_ (fun x hx=>?_) (fun x c' h=>?_) h4)
   ·have:cellOf env n=pure c:=by unfold cellOf;exact hc▸rfl
    simp only [if_true,this,beq_self_eq_true]
    exact h1
   ·rcases List.mem_cons.mp hx with e | hx
    ·cases e
     rw [hc];exact h3 _ _ (by simp [List.lookup_cons])
    ·exact h2 x hx
   ·by_cases q:(x==n)=true
    ·have e1:=ha x c' h
     rw [beq_iff_eq.mp q] at e1 ⊢
     rw [hc] at e1;cases e1
     exact h3 _ _ (by simp [List.lookup_cons])
    ·rw [Bool.not_eq_true] at q
     exact h3 _ _ (by rw [List.lookup_cons,q];exact h)
  ·refine el_EAAA (closure_go r acc (fun x hx=>hn x (.tail _ hx)) ha) fun cl h1 h2 h3 h4=>?_
   refine (in_EAAA cl ?_ (fun x hx=>?_) h3 h4)
   ·simp only [hk];exact h1
   ·rcases List.mem_cons.mp hx with e | hx
    ·cases e;exact (hk rfl).elim
    ·exact h2 x hx
theorem closure_ok {scope:Scope} {env:Env} (h:∀ x,(x,NameKind.free)∈scope.names→(env.cells.lookup x).isSome=true) :
  ∃ cl,closureFor scope env=pure cl∧(∀ x,(x,NameKind.free)∈scope.names→cl.lookup x=env.cells.lookup x)∧(∀ x c,cl.lookup x=some c→env.cells.lookup x=some c):=by
 refine el_EAAA (closure_go (env:=env) scope.names [] h (fun x c h=>by trivial)) fun cl h1 h2 u0 h4=>?_
 refine (in_EAA cl ?_ h2 h4)
 unfold closureFor
 exact (congrArg (fun m:Sem (List (Str × Addr))=>m >>= fun s=>pure s) h1).trans rfl
theorem Inv.toZ {prog:Program} {w:World} {B:Heap} {Fs:List Addr} {Z:Zone} {H:Hp} {h:Heap} {C:Addr} {o:Obj} (I:Inv prog w B (C::Fs) Z H h) (hC:h.get? C=some o) (nC:C∉Fs):Inv prog w B Fs (put Z C o) H h:=by
 obtain ⟨b,z,f,δ,o1,o2,o3⟩:=I
 refine el_AA (f C (.head _)) fun zC hHC u0=>?_
 refine ⟨fun x y e=>Ext.put zC _ _ (b x y e),fun x y e=>?_,fun x hx=>⟨?_,(f x (.tail _ hx)).2⟩,δ,fun a y e=>(in_AA ((o1 a y e).1.mono (Ext.put zC).seq (fun u0 e=>e) (fun u0 u0 u0 u0 e=>e)) ?_ ((o1 a y e).2.2)),o2,fun a D fs e=>(in_AA ?_ ((o3 a D fs e).2.1) (fun q=>(o3 a D fs e).2.2 (.tail _ q)))⟩
 ·by_cases q:x=C
  ·rw [q,put_at] at e;cases e;rw [q];exact hC
  ·rw [put_ne q] at e;exact z x y e
 ·rw [put_ne (neF hx nC)];exact (f x (.tail _ hx)).1
 ·rw [put_ne (fun q=>by rw [q,hHC] at e;trivial)];exact (o1 a y e).2.1
 ·rw [put_ne (fun q=>(o3 a D fs e).2.2 (by rw [q];exact .head _))];exact (o3 a D fs e).1
theorem Inv.toF {prog:Program} {w:World} {B:Heap} {Fs:List Addr} {Z:Zone} {H:Hp} {h:Heap} {C:Addr} {o:Obj} {m:Str→Option Value} (I:Inv prog w B Fs Z H h) (hZ:Z C=some o) (hm:h.Ns C m) (nB:B.get? C=none):Inv prog w B (C::Fs) (del Z C) H h:=by
 obtain ⟨b,z,f,δ,o1,o2,o3⟩:=I
 have hd:∀ x y,del Z C x=some y→x≠C∧Z x=some y:=fun x y e=>by
  by_cases q:x=C
  ·rw [q,del_at] at e;trivial
  ·rw [del_ne q] at e;exact ⟨q,e⟩
 have hns:∀ ys n,o.data≠.seq ys n:=fun ys n q=>by
  refine el_EEEAA hm fun o' es ep e d u0=>?_
  have:=z _ _ hZ
  rw [e] at this;cases this;rw [q] at d;trivial
 have sx:SeqExt Z (del Z C):=fun a oo ys n e1 e2=>by
  by_cases q:a=C
  ·rw [q,hZ] at e1;cases e1;exact absurd e2 (hns ys n)
  ·rw [del_ne q];exact e1
 have hHC:H C=none:=by
  cases q:H C with
  | none=>rfl
  | some oo=>have:=(o1 C oo q).2.1;rw [hZ] at this;trivial
 refine ⟨fun x y e=>?_,fun x y e=>z x y (hd x y e).2,fun x hx=>?_,δ,fun a y e=>(in_AA ((o1 a y e).1.mono sx (fun u0 e=>e) (fun u0 u0 u0 u0 e=>e)) ?_ ((o1 a y e).2.2)),o2,fun a D fs e=>(in_AA ?_ ((o3 a D fs e).2.1) (fun q=>?_))⟩
 ·rw [del_ne (fun q=>by rw [q,nB] at e;trivial)];exact b x y e
 ·rcases List.mem_cons.mp hx with rfl | hx
  ·exact (in_AAE del_at hHC m hm)
  ·refine ⟨?_,(f x hx).2⟩
   rw [del_ne (fun q=>by have:=(f x hx).1;rw [q,hZ] at this;trivial)];exact (f x hx).1
 ·rw [del_ne (fun q=>by have:=(o1 a y e).2.1;rw [q,hZ] at this;trivial)];exact (o1 a y e).2.1
 ·rw [del_ne (fun q=>by have:=(o3 a D fs e).1;rw [q,hZ] at this;trivial)];exact (o3 a D fs e).1
 ·rcases List.mem_cons.mp q with q | q
  ·have:=(o3 a D fs e).1;rw [q,hZ] at this;trivial
  ·exact (o3 a D fs e).2.2 q
noncomputable def SelfIt (g:G) (A:Around) (Fs:List Addr) (it:Value) (P:List V→Zone→Prop):Prop:=
 ∀ (xs:List V) (Z:Zone) (H:Hp) (s:Shared) (Q:Value→Shared→Prop) (E:Value→Shared→Prop),P xs Z→Inv g.prog g.w g.B Fs Z H s.heap→Q it s→wpAny (model g.prog g.w) A (pyIter it) Q E s
section
variable {g:G} {nm:List (Str × NameKind)}
theorem compLoop_any {prog:Program} {w:World} {A:Around} {R:Result→Shared→Prop} {s:Shared} {elt target iter:PySem.Expr} {scope:Scope} {pos:Pos} {it acc:Value} {env:Env} (I:Nat→Shared→Prop)
  (turn:∀ n s,I n s→wpAny (model prog w) A (pyNext it) (fun r s₁=>match r with
   | none=>R (.ok .next) s₁
   | some v=>wpAny (model prog w) A (letOwnedTupleGo target it v) (fun u0 s₁'=>wpAny (model prog w) A (assign target env v) (fun u0 s₂=>wpAny (model prog w) A (eval elt env) (fun x s₃=>
     wpAny (model prog w) A (call (.builtin "list.append") [acc,x]) (fun u0 s₄=>∃ m,m < n∧I m s₄) (notedBy (model prog w) A env fun e s'=>R (.error e) s') s₃)
     (notedBy (model prog w) A env fun e s'=>R (.error e) s') s₂) (notedBy (model prog w) A env fun e s'=>R (.error e) s') s₁') (notedBy (model prog w) A env fun e s'=>R (.error e) s') s₁) (notedBy (model prog w) A env fun e s'=>R (.error e) s') s)
  (n:Nat) (h:I n s) :
  codeAny (model prog w) A (.compLoop (.ListComp elt [⟨target,iter,[],0⟩] scope pos) 0 it acc env) R s:=by
 refine codeAny_loop rfl I (fun n s hI=>?_) n h
 show wpAny _ _ ((compTurn (.ListComp elt [⟨target,iter,[],0⟩] scope pos) 0 it acc env).onRaise (fun x=>do noteFrame x env;theTreesLotGoes x)) _ _ s
 refine wpAny_noted ?_
 rw [compTurn_list1]
 refine wpAny_bind (wpAny_standAt (wpAny_bind (wpAny_mono (turn n s hI) (fun r s₁ h₁=>?_) fun u0 u0 h'=>h')))
 cases r with
 | none=>exact wpAny_pure h₁
 | some v=>
  refine wpAny_bind (wpAny_mono h₁ (fun u0 s₁' h₁'=>?_) fun u0 u0 h'=>h')
  exact wpAny_bind (wpAny_mono h₁' (fun u0 s₂ h₂=>wpAny_bind (wpAny_bind (wpAny_mono h₂ (fun x s₃ h₃=>wpAny_bind (wpAny_mono h₃
   (fun u0 s₄ h₄=>wpAny_pure (wpAny_pure ⟨rfl,h₄⟩)) fun u0 u0 h'=>h')) fun u0 u0 h'=>h'))) fun u0 u0 h'=>h')
theorem LocR.weak {env:Env} {m m0:Loc} {Fs:List Addr} {Z:Zone} {h:Heap} (L:LocR nm env m Fs Z h) (hw:∀ (i:Nat) v,m0[i]?=some (some v)→m[i]?=some (some v)):LocR nm env m0 Fs Z h:=
 ⟨let ⟨m',n1,n2⟩:=L.ns;⟨m',n1,fun i x v a b=>n2 i x v a (hw i v b)⟩,fun i x k v a b c=>L.cells i x k v a b (hw i v c),L.loc,L.cex⟩
theorem store_loc {i:Nat} {x:Str} (hi:nm[i]?=some (x,.local)) {A:Around} {C:Addr} {Fs:List Addr} {env:Env} {m:Loc} {s:Shared} {Z:Zone} {H:Hp} {v:V} {y:Value}
  {R:Unit→Shared→Prop} {E:Value→Shared→Prop} (V:EnvOk env nm) (hL:env.locals=C) (nC:C∉Fs)
  (I:Inv g.prog g.w g.B (C::Fs) Z H s.heap) (LR:LocR nm env m (C::Fs) Z s.heap) (vr:VR Z v y)
  (h:∀ s1,Go Fs Z s Z s1→Inv g.prog g.w g.B (C::Fs) Z H s1.heap→LocR nm env (m.set i (some v)) (C::Fs) Z s1.heap→R () s1) :
  wpAny (model g.prog g.w) A (storeName env x y) R E s:=by
 have hko:env.kindOf x=some .local:=kind_of V hi
 have hnames:∀ (i':Nat) x' k',nm[i']?=some (x',k')→i'≠i→x'≠x:=by
  intro i' x' k' h1 h2 h3
  subst h3
  have a1:(nm.map (·.1))[i']?=some x':=by rw [List.getElem?_map,h1];rfl
  have a2:(nm.map (·.1))[i]?=some x':=by rw [List.getElem?_map,hi];rfl
  obtain ⟨hj,ej⟩:=List.getElem?_eq_some_iff.mp a1
  obtain ⟨hk,ek⟩:=List.getElem?_eq_some_iff.mp a2
  have p:=List.pairwise_iff_getElem.mp V.nd
  rcases Nat.lt_trichotomy i' i with q | q | q
  ·exact absurd (ej.trans ek.symm) (p i' i hj hk q)
  ·exact h2 q
  ·exact absurd (ek.trans ej.symm) (p i i' hk hj q)
 have hset:∀ (i':Nat) u,(m.set i (some v))[i']?=some (some u)→(i'=i∧u=v)∨(i'≠i∧m[i']?=some (some u)):=by
  intro i' u e
  rw [List.getElem?_set] at e
  split at e
  ·rename_i q
   split at e
   ·cases e;exact .inl ⟨q.symm,rfl⟩
   ·trivial
  ·rename_i q
   exact .inr ⟨fun z=>q z.symm,e⟩
 obtain ⟨⟨m',n1,n2⟩,cs,lo,ce⟩:=LR
 refine wpAny_storeName_local hko n1 (fun h' hn hs=>?_) (by rw [V.kd];rfl)
 rw [hL] at hs hn n1
 have zL:∀ b o,Z b=some o→b≠C:=fun b o e q=>by rw [q,(I.frs C (.head _)).1] at e;trivial
 have hd:∀ b o,b≠C→s.heap.get? b=some o→h'.get? b=some o:=fun b o q e=>(hs.2 b q).trans e
 refine h _ ⟨.refl _,fun b hb mm e=>e.sameBut hs (fun q=>nC (q▸hb)),(in_AA rfl rfl rfl)⟩ ?_ ⟨(in_EA _ (by rw [hL];exact hn) (fun i' x' u h1 h2=>?_)),fun i' x' k' u h1 h3 h2=>?_,.inl (by rw [hL];exact .head _),ce⟩
 ·obtain ⟨bb,z,f,δ,o1,o2,o3⟩:=I
  refine ⟨bb,fun b o e=>hd b o (zL b o e) (z b o e),fun b hb=>(in_AA ((f b hb).1) ((f b hb).2.1) ?_),δ,fun a o e=>⟨(o1 a o e).1.mono (fun u0 u0 u0 u0 e u0=>e) (fun x=>hd a x fun q=>?_) (fun C' fs e' x=>hd _ x fun q=>?_),(o1 a o e).2⟩,o2,o3⟩
  ·by_cases q:b=C
   ·subst q;exact ⟨_,hn⟩
   ·obtain ⟨mm,e⟩:=(f b hb).2.2;exact ⟨mm,e.sameBut hs q⟩
  ·have:=(f C (.head _)).2.1;rw [q] at e;rw [this] at e;trivial
  ·exact (o3 a C' fs (e'▸e)).2.2 (q▸.head _)
 ·rcases hset i' u h2 with ⟨rfl,rfl⟩ | ⟨q,h2⟩
  ·rw [hi] at h1;cases h1;exact (in_EA y (by simp) vr)
  ·refine el_EA (n2 i' x' u h1 h2) fun z e1 e2=>?_
   exact (in_EA z (by simp [hnames i' x' _ h1 q,e1]) e2)
 ·rcases hset i' u h2 with ⟨rfl,rfl⟩ | ⟨q,h2⟩
  ·rw [hi] at h1;cases h1;rcases h3 with h3 | h3<;>trivial
  ·exact cs i' x' k' u h1 h3 h2
noncomputable def TakeL (g:G) (nm:List (Str × NameKind)) (target:PySem.Expr) (take:V→Loc→(Loc→Prop)→Prop):Prop:=
 ∀ (A:Around) (C:Addr) (Fs:List Addr) (env:Env) (m:Loc) (s:Shared) (Z:Zone) (H:Hp) (v:V) (y:Value) (N:Loc→Prop) (R:Unit→Shared→Prop) (E:Value→Shared→Prop),
 A.handled=none→EnvOk env nm→env.locals=C→C∉Fs→take v m N→Inv g.prog g.w g.B (C::Fs) Z H s.heap→LocR nm env m (C::Fs) Z s.heap→VR Z v y →
 (∀ m' s1,N m'→Go Fs Z s Z s1→Inv g.prog g.w g.B (C::Fs) Z H s1.heap→LocR nm env m' (C::Fs) Z s1.heap→R () s1)→wpAny (model g.prog g.w) A (assign target env y) R E s
theorem takeL_name {i:Nat} {x:Str} {p:Pos} (hi:nm[i]?=some (x,.local)):TakeL g nm (.Name x p) fun v m N=>N (m.set i (some v)):=
 fun u0 u0 u0 u0 u0 u0 u0 u0 u0 u0 u0 u0 u0 u0 V hL nC w I L vr h=>wpAny_assign_Name (store_loc hi V hL nC I L vr fun s1 go1 I1 L1=>h _ s1 w go1 I1 L1)
theorem takeL_one {i:Nat} {x:Str} {p:Pos} (hi:nm[i]?=some (x,.local)):TakeL g nm (.Name x p) (takeIt [i] true):=
 fun u0 u0 u0 u0 u0 u0 u0 u0 u0 u0 u0 u0 u0 u0 V hL nC w I L vr h=>wpAny_assign_Name (store_loc hi V hL nC I L vr fun s1 go1 I1 L1=>h _ s1 w go1 I1 L1)
set_option tactic.hygienic true in
theorem takeL_two {i j:Nat} {x y:Str} {p q pos:Pos} {x1:Nat} (hi:nm[i]?=some (x,.local)) (hj:nm[j]?=some (y,.local)):TakeL g nm (.Tuple [.Name x p,.Name y q] x1 pos) (takeIt [i,j] false):=by
 intro A C Fs env m s Z H v y' N R E hh V hL nC w I LR vr h
 unfold takeIt at w
 split at w
 ·trivial
 ·rename_i vs hff
  split at w
  ·rename_i m' hs
   simp only [VR] at vr
   refine el_EEEAAA vr fun a c ys rf3 e1 e2 e3=>?_;subst rf3
   have hlen:=setEach_length hs
   have hl2:=e3.length
   refine assign_Tuple_tuple (items:=ys) hh (in_EAAE _ (I.zin _ _ e1) rfl _ rfl) (by show (2:Nat)=_;rw [show ([i,j]:List Nat).length=2 from rfl] at hlen;rw [hlen,hl2];simp) rfl fun h' he=>?_
   have k:=extBut_keeps he
   have go1:Go (C::Fs) Z s Z { s with heap:=h' }:=⟨.refl _,.of_keeps k,(in_AA rfl rfl rfl)⟩
   have I1:=I.grow k
   have L1:=LR.go go1 I1 I.zin
   match vs,hlen with
   | [u,t],_=>
    simp only [setEach,Option.some.injEq] at hs
    subst hs
    simp only [VRs] at e3
    refine el_EEAA e3 fun y1 u0 q1 v1 rt4=>?_;obtain ⟨y2,_,rfl,v2,rfl⟩:=rt4
    rw [q1]
    refine assignInOrder_cons (t:=assign (.Name x p) env) (ts:=[assign (.Name y q) env]) (wpAny_assign_Name (store_loc (s:={ s with heap:=h' }) hi V hL nC I1 L1 v1 fun s2 go2 I2 L2=>?_))
    refine assignInOrder_cons (t:=assign (.Name y q) env) (ts:=[]) (wpAny_assign_Name (store_loc hj V hL nC I2 L2 v2 fun s3 go3 I3 L3=>?_))
    exact assignInOrder_nil (h _ s3 w ((go1.tail.trans go2).trans go3) I3 L3)
  ·exact w.elim
 ·exact w.elim
theorem append_exact {prog:Program} {w:World} {A:Around} {E:Value→Shared→Prop} {s:Shared} {l:Addr} {items:Array Value} {n:Nat} {x:Value} {Q:Value→Shared→Prop} (hl:s.heap.get? l=some (PySem.W.listOf items n))
  (hsz:items.size≤sizeLine) (hQ:Q .none { s with heap:=s.heap.update l (Obj.mapSeq (·.push x)) }):wpAny (model prog w) A (call (.builtin "list.append") [.ref l,x]) Q E s:=by
 have hL:s.heap.IsList l items:=(in_EAAE _ hl rfl n rfl)
 refine wpAny_call_entry slot_list_append hL.typeIs entry_list_append ?_ (args_list_append _ _)
 show wpAny _ _ (updateSeq l (·.push x) >>= fun u0=>ret .none) _ _ s
 refine wpAny_bind ?_
 exact wpAny_updateSeq hl rfl (wpAny_pure (in_EA .none rfl hQ))
theorem comp_loop {nmI:List (Str × NameKind)} {target pelt iter:PySem.Expr} {el:E} {scope:Scope} {pos:Pos} {it:Value} {take:V→Loc→(Loc→Prop)→Prop} (Tk:TakeL g nmI target take) (Se:Snd g nmI pelt el) {n:Nat} {A:Around} {C acc:Addr} {Fs:List Addr} {env:Env} {m0:Loc} {Z0:Zone} {s0 s:Shared} {Z:Zone} {H:Hp} {N:Hp→Prop} {R:Result→Shared→Prop} {xs:List V}
  {Ch:Addr→Prop} {P:List V→Zone→Prop} (T:Turn g A (C::Fs) Ch target it P) (Sf:SelfIt g A (C::Fs) it P) (st:∀ xs Z Z',P xs Z→(∀ b o,Z b=some o→(∀ u,o.data≠.cell u)→Z' b=some o)→P xs Z') (pf:∀ xs Z b,P xs Z→Ch b→∃ o vs,Z b=some o∧o.data=.fields vs)
  (hB:∀ b,Ch b→g.B.get? b=none) (hZ0:∀ b,Ch b→Z0 b=none) (hZC:Z0 C=none) (nB:g.B.get? C=none) (nC:C∉Fs) (D:Gd A Fs n) (V0:EnvOk env nmI) (hL:env.locals=C) (hm0:∀ (i:Nat) x v,nmI[i]?=some (x,NameKind.local)→m0[i]?≠some (some v))
  (w:compW (fun v Q' H'=>take v m0 fun m'=>wE g n el m' Q' (fun u0 u0=>False) H') acc xs N H) (p:P xs Z) (go:Go Fs Z0 s0 Z s) (I:Inv g.prog g.w g.B (C::Fs) Z H s.heap) (LR:LocR nmI env m0 (C::Fs) Z s.heap)
  (hR:∀ s' Z' H',Go Fs Z0 s0 Z' s'→Inv g.prog g.w g.B (C::Fs) Z' H' s'.heap→N H'→R (.ok .next) s') :
  codeAny (model g.prog g.w) A (.compStart (.ListComp pelt [⟨target,iter,[],0⟩] scope pos) 0 it (.ref acc) env) R s:=by
 have loop:codeAny (model g.prog g.w) A (.compLoop (.ListComp pelt [⟨target,iter,[],0⟩] scope pos) 0 it (.ref acc) env) R s:=by
  refine compLoop_any (fun k s=>∃ xs Z H,k=xs.length∧P xs Z∧compW (fun v Q' H'=>take v m0 fun m'=>wE g n el m' Q' (fun u0 u0=>False) H') acc xs N H∧Go Fs Z0 s0 Z s∧Inv g.prog g.w g.B (C::Fs) Z H s.heap∧LocR nmI env m0 (C::Fs) Z s.heap) ?_ xs.length (in_EEEAAA xs Z H rfl p w ⟨go,I,LR⟩)
  clear p w go I LR xs Z H s
  rintro k s ⟨xs,Z,H,rfl,p,w,go,I,LR⟩
  have Cg:Chg Ch g.B Z:=⟨fun b hb=>pf xs Z b p hb,hB⟩
  have goS:∀ s' Z',StepZ Ch Z Z' s s'→Go Fs Z0 s0 Z' s':=fun s' Z' S=>by
   refine ⟨fun b o e=>S.z b o (fun q=>by rw [hZ0 b q] at e;trivial) (go.ext b o e),fun b hb mm e=>?_,go.same.trans S.same⟩
   refine el_EEEA (go.frk b hb mm e) fun o es ep e1 r=>?_
   have:¬Ch b:=fun q=>by refine el_EEA (Cg.fl b q) fun o' vs e' u0=>?_;rw [(I.frs b (.tail _ hb)).1] at e';trivial
   exact (in_EEEA o es ep (S.k b _ this e1) r)
  refine T xs Z H s _ _ _ p I (fun e s' Z' S I'=>?_) (fun x r e y s' Z' S I' vr p'=>?_)
  ·subst e
   exact hR s' Z' H (goS s' Z' S) I' w
  ·subst e
   have L':=LR.swap I Cg S
   have go':=goS s' Z' S
   refine Tk A C Fs env m0 s' Z' H x y _ _ _ D.handled V0 hL nC w I' L' vr fun m' s1 w1 go1 I1 L1=>?_
   have go2:=go'.trans go1
   refine el_AAE (I1.frs C (.head _)) fun zC hHC mC hns=>?_
   obtain ⟨oC,hoC⟩:∃ o,s1.heap.get? C=some o:=let ⟨o,_,_,e,_⟩:=hns;⟨o,e⟩
   have I2:=I1.toZ hoC nC
   have L2:LocR nmI env m' Fs (put Z' C oC) s1.heap:=by
    obtain ⟨⟨m2,n1,n2⟩,cs,lo,ce⟩:=L1
    exact ⟨⟨m2,n1,fun i x v a b=>let ⟨y,e1,e2⟩:=n2 i x v a b;⟨y,e1,VR.mono (Ext.put zC).seq _ _ e2⟩⟩,fun i x k v a b c=>let ⟨c',o,y,e1,e2,e3,e4⟩:=cs i x k v a b c;⟨c',o,y,e1,Ext.put zC _ _ e2,e3,VR.mono (Ext.put zC).seq _ _ e4⟩,.inr ⟨oC,by rw [hL,put_at]⟩,fun x c e=>let ⟨o,u,e1,e2⟩:=ce x c e;⟨o,u,Ext.put zC _ _ e1,e2⟩⟩
   refine wpAny_mono (Se n A Fs env m' s1 (put Z' C oC) H _ _ D V0 w1 I2 L2) (fun yv s3 q=>?_) fun u0 u0 q=>?_
   ·obtain ⟨v,Z3,H3,go3,I3,vr3,vs,ha,hlen,w3⟩:=q
    refine el_EEAA (I3.listAt ha) fun ys c e1 e2 e3=>?_
    have hl:=e3.size
    have nsC3:s3.heap.get? C=some oC:=I3.zin _ _ (go3.ext _ _ put_at)
    obtain ⟨_,Z4,H4,go4,I4,_,q4⟩:=OkE.setList (Q:=fun u0 H'=>compW (fun v Q' H'=>take v m0 fun m'=>wE g n el m' Q' (fun u0 u0=>False) H') acc r N H') (v:=.none) (y:=.none) (t:=s3.toks) (f:=(·.push yv)) (xs':=vs++[v]) I3 ha e1 (by simp;exact ln 0x1f041f1b00ffffff3110b144012b1101120 rfl hlen hl) (by simp only [Array.toList_push];exact e3.append (.one vr3)) (by rfl) w3
    refine append_exact e1 (by rw [sizeLine_eq];exact e2) ?_
    have ex34:Ext (put Z' C oC) Z4:=go3.ext.trans go4.ext
    have hZ4:Z4 C=some oC:=ex34 _ _ put_at
    have nsC4:({ s3 with heap:=s3.heap.update acc (Obj.mapSeq fun x=>x.push yv),toks:=s3.toks }:Shared).heap.Ns C mC:=by
     refine el_EEEA hns fun o es ep f1 f2=>?_
     rw [hoC] at f1;cases f1
     exact (in_EEEA oC es ep (I4.zin _ _ hZ4) f2)
    have I5:=I4.toF hZ4 nsC4 nB
    have sub:∀ b o,Z' b=some o→del Z4 C b=some o:=fun b o e=>by
     have hb:b≠C:=fun q=>by rw [q,zC] at e;trivial
     rw [del_ne hb];exact ex34 _ _ (Ext.put zC _ _ e)
    have goF:Go Fs Z0 s0 (del Z4 C) { s3 with heap:=s3.heap.update acc (Obj.mapSeq fun x=>x.push yv),toks:=s3.toks }:=by
     have g5:=go3.trans go4
     exact ⟨fun b o e=>sub b o (go'.ext b o e),go2.frk.trans g5.frk,go2.same.trans g5.same⟩
    refine (in_EA r.length (Nat.lt_succ_self _) ⟨r,del Z4 C,H4,rfl,st r Z' _ p' fun b o e u0=>sub b o e,q4,goF,I5,?_⟩)
    obtain ⟨⟨m2,n1,n2⟩,cs,lo,ce⟩:=L'
    have sx:SeqExt Z' (del Z4 C):=fun a o ys n e u0=>sub a o e
    exact ⟨⟨mC,by rw [hL];exact nsC4,fun i x v a b=>absurd b (hm0 i x v a)⟩,fun i x k v a b c=>let ⟨c',o,y,e1,e2,e3,e4⟩:=cs i x k v a b c;⟨c',o,y,e1,sub _ _ e2,e3,VR.mono sx _ _ e4⟩,.inl (by rw [hL];exact .head _),fun x c e=>let ⟨o,u,e1,e2⟩:=ce x c e;⟨o,u,sub _ _ e1,e2⟩⟩
   ·obtain ⟨_,_,_,_,_,_,q⟩:=q
    exact q.elim
 exact codeAny_compStart_list loop (Sf xs Z H s _ _ p I loop)
end
end Mine
namespace Mine
noncomputable def freeCell (l:List (Str × NameKind)):List (Str × NameKind):=l.map fun p=>match p.2 with | .free=>(p.1,.cell) | _=>p
noncomputable def nkEq (a b:NameKind):Bool:=match a,b with
 | .local,.local=>true
 | .cell,.cell=>true
 | .free,.free=>true
 | _,_=>false
theorem nkEq_eq {a b:NameKind} (h:nkEq a b=true):a=b:=by cases a<;>cases b<;>first | rfl | exact of_decide_eq_true h
noncomputable def mpOk (nm sn:List (Str × NameKind)):List (Option Nat)→List (Str × NameKind)→Bool
 | [],[]=>true
 | none::r,_::l=>mpOk nm sn r l
 | some j::r,(x,k)::l=>(nkEq k .cell&&(match nm[j]? with | some (y,k2)=>(x==y)&&nkEq k2 .cell | none=>false)&&sn.any fun p=>(p.1==x)&&nkEq p.2 .free)&&mpOk nm sn r l
 | _,_=>false
set_option tactic.hygienic true in
theorem mpOk_get {nm sn:List (Str × NameKind)}:∀ {mp:List (Option Nat)} {nmI:List (Str × NameKind)} {i j:Nat} {x:Str} {k:NameKind},mpOk nm sn mp nmI=true→mp[i]?=some (some j)→nmI[i]?=some (x,k)→k=.cell∧nm[j]?=some (x,.cell)∧(x,NameKind.free)∈sn
 | [],_,_,_,_,_,_,h,_=>by trivial
 | none::r,[],_,_,_,_,h,_,_=>by simp [mpOk] at h
 | none::r,_::l,0,_,_,_,_,h,_=>by cases h
 | none::r,_::l,i+1,j,x,k,h,h1,h2=>mpOk_get (mp:=r) (nmI:=l) (i:=i) (by simpa only [mpOk] using h) (by simpa using h1) (by simpa using h2)
 | some j'::r,[],_,_,_,_,h,_,_=>by simp [mpOk] at h
 | some j'::r,(x',k')::l,0,j,x,k,h,h1,h2=>by
  simp only [List.getElem?_cons_zero,Option.some.injEq,Prod.mk.injEq] at h1 h2
  subst h1
  obtain ⟨rfl,rfl⟩:=h2
  simp only [mpOk,Bool.and_eq_true] at h
  obtain ⟨⟨⟨h1,h2⟩,h3⟩,-⟩:=h
  refine ⟨nkEq_eq h1,?_,?_⟩
  ·split at h2
   ·rename_i y k2 e
    simp only [Bool.and_eq_true,beq_iff_eq] at h2
    rw [e,← h2.1,nkEq_eq h2.2]
   ·trivial
  ·obtain ⟨p,hp,q⟩:=List.any_eq_true.mp h3
   simp only [Bool.and_eq_true,beq_iff_eq] at q
   obtain ⟨p1,p2⟩:=p
   have:=nkEq_eq q.2
   dsimp only at q this
   rw [← q.1,← this];exact hp
 | some j'::r,(x',k')::l,i+1,j,x,k,h,h1,h2=>mpOk_get (mp:=r) (nmI:=l) (i:=i) (by simp only [mpOk,Bool.and_eq_true] at h;exact h.2) (by simpa using h1) (by simpa using h2)
section
variable {g:G} {nm:List (Str × NameKind)}
theorem relabel_names {scope:Scope} {env:Env} (V:EnvOk env nm) (h:∀ x,(x,NameKind.free)∈scope.names→(x,NameKind.cell)∈nm):(relabel scope env).names=freeCell scope.names:=by
 show scope.names.map _=_
 unfold freeCell
 refine List.map_congr_left fun p hp=>?_
 obtain ⟨n,k⟩:=p
 cases k with
 | free=>
  have:env.kindOf n=some .cell:=by show env.scope.names.lookup n=_;rw [V.sc];exact lookup_mem V.nd (h n hp)
  simp [V.kd,this]
 | _=>rfl
theorem comp_block {scope:Scope} {mp:List (Option Nat)} {target pelt iter:PySem.Expr} {el:E} {pos:Pos} {it:Value} {take:V→Loc→(Loc→Prop)→Prop} {use:Option (Value→Sem Unit)} {Q:Value→Shared→Prop} {E:Value→Shared→Prop} {cl:List (Str × Addr)} {QVV:QV}
  (Tk:TakeL g (freeCell scope.names) target take) (Se:Snd g (freeCell scope.names) pelt el) (hmp:mpOk nm scope.names mp (freeCell scope.names)=true) (hfr:∀ x,(x,NameKind.free)∈scope.names→(x,NameKind.cell)∈nm) (hnc:∀ p∈scope.names,p.2≠.cell) (hkd:scope.kind=.function)
  (hnd:((freeCell scope.names).map (·.1)).Nodup) (hdb:∀ p∈freeCell scope.names,(p.1==("__debug__":Str))=false∧(p.1==("__classdict__":Str))=false)
  {n:Nat} {A:Around} {Fs:List Addr} {env:Env} {m:Loc} {Z0:Zone} {s0 s:Shared} {Z:Zone} {H:Hp} {xs:List V} {Ch:Addr→Prop} {P:List V→Zone→Prop}
  (T:∀ C,Turn g A (C::Fs) Ch target it P) (Sf:∀ C,SelfIt g A (C::Fs) it P) (st:∀ xs Z Z',P xs Z→(∀ b o,Z b=some o→(∀ u,o.data≠.cell u)→Z' b=some o)→P xs Z') (pf:∀ xs Z b,P xs Z→Ch b→∃ o vs,Z b=some o∧o.data=.fields vs)
  (hB:∀ b,Ch b→g.B.get? b=none) (hZ0:∀ b,Ch b→Z0 b=none) (B3:∃ m,g.B.Ns 3 m) (D:Gd A Fs n) (V0:EnvOk env nm)
  (hclos:∀ x,(x,NameKind.free)∈scope.names→cl.lookup x=env.cells.lookup x) (hclos2:∀ x c,cl.lookup x=some c→env.cells.lookup x=some c)
  (w:∀ a,H a=none→compW (fun v Q' H'=>take v (cLoc mp m) fun m'=>wE g n el m' Q' (fun u0 u0=>False) H') a xs (compE a QVV) (put H a (.list []))) (p:P xs Z) (go:Go Fs Z0 s0 Z s) (I:Inv g.prog g.w g.B Fs Z H s.heap) (LR:LocR nm env m Fs Z s.heap)
  (hfin:∀ a C s' Z' H',C∉Fs→Z0 C=none→g.B.get? C=none→Go Fs Z0 s0 Z' s'→Inv g.prog g.w g.B (C::Fs) Z' H' s'.heap→compE a QVV H'→compPost (model g.prog g.w) A E use Q (.ref a) C (.ok .next) s') :
  wpAny (model g.prog g.w) A (newList []) (fun acc s₃=>wpAny (model g.prog g.w) A (newFunctionEnv scope env.globals cl [] env.qual none .none (some env)) (fun cenv s₄=>
   codeAny (model g.prog g.w) A (.compStart (.ListComp pelt [⟨target,iter,[],0⟩] scope pos) 0 it acc { cenv with scope:=relabel scope env }) (compPost (model g.prog g.w) A E use Q acc cenv.locals) s₄) E s₃) E s:=by
 refine wpAny_newObj_type (wpAny_newFunctionEnv hnc (by intro y hy;simp at hy) (fun h₁ hns₁ hsb₁=>?_) hkd)
 dsimp only at hns₁ hsb₁ ⊢
 have ha:=size_none s.heap
 have hoa:(s.heap.push { cls:=.type "list",data:=.seq ([]:List Value).toArray }).get? s.heap.objs.size=some (PySem.W.listOf #[] 0):=Heap.get?_push_size _ rfl
 have hkp:Keeps s.heap (s.heap.push { cls:=.type "list",data:=.seq ([]:List Value).toArray }):=keeps_push _ _
 have h3:=I.three B3 (Nat.le_refl s.heap.objs.size)
 generalize s.heap.push { cls:=.type "list",data:=.seq ([]:List Value).toArray }=H2 at hns₁ hsb₁ hoa hkp ⊢
 generalize s.heap.objs.size=a at ha hoa h3
 have hHa:=(I.hNone ha).1
 have I2:Inv g.prog g.w g.B Fs Z (put H a (.list [])) H2:=I.ownNew hkp h3 ha (fun u0=>(in_EEAA (#[]) 0 hoa (by exact Nat.zero_le _) .nil)) (fun u0 u0 q=>by trivial)
 have hC:=size_none H2
 have nC:=(I2.hNone hC).2.2
 have zC:=(I2.hNone hC).2.1
 have k3:Keeps H2 h₁:=fun b o e=>hsb₁.extBut b o (Nat.ne_of_lt (Heap.lt_size e)) (Heap.get?_push_of_some _ e)
 generalize H2.objs.size=C at hns₁ hsb₁ hC nC zC ⊢
 have I3:=I2.enter k3 hC hns₁
 have nB:g.B.get? C=none:=by
  cases q:g.B.get? C with
  | none=>rfl
  | some o=>have:=I.base _ _ q;rw [zC] at this;trivial
 have z0C:Z0 C=none:=by
  cases q:Z0 C with
  | none=>rfl
  | some o=>have:=go.ext _ _ q;rw [zC] at this;trivial
 have hnmI:(relabel scope env).names=freeCell scope.names:=relabel_names V0 hfr
 have fc:∀ x,(x,NameKind.cell)∈freeCell scope.names→(x,NameKind.free)∈scope.names:=fun x hx=>by
  refine el_EA (List.mem_map.mp hx) fun q hq e=>?_
  obtain ⟨y,k⟩:=q
  cases k with
  | free=>cases e;exact hq
  | cell=>exact absurd rfl (hnc _ hq)
  | _=>cases e
 have V1:EnvOk { newEnv scope C env.globals cl env.qual none Value.none (some env) 0 with scope:=relabel scope env } (freeCell scope.names):=
  ⟨hnmI,hkd,V0.gl,V0.bl,hnd,fun x hx=>by
   have hf:=fc x hx
   show (cl.lookup x).isSome=true
   rw [hclos x hf];exact V0.ce x (hfr x hf),hdb⟩
 have go3:Go Fs Z0 s0 Z { s with heap:=h₁,toks:=s.toks }:=go.trans ⟨.refl _,.of_keeps (hkp.trans k3),(in_AA rfl rfl rfl)⟩
 have hm0:∀ (i:Nat) x v,(freeCell scope.names)[i]?=some (x,NameKind.local)→(cLoc mp m)[i]?≠some (some v):=fun i x v h1 h2=>by
  unfold cLoc at h2
  rw [List.getElem?_map] at h2
  cases q:mp[i]? with
  | none=>rw [q] at h2;trivial
  | some o=>
   cases o with
   | none=>rw [q] at h2;cases h2
   | some j=>have:=(mpOk_get hmp q h1).1;trivial
 have L3:LocR (freeCell scope.names) { newEnv scope C env.globals cl env.qual none Value.none (some env) 0 with scope:=relabel scope env } (cLoc mp m) (C::Fs) Z h₁:=by
  refine ⟨(in_EA _ hns₁ (fun i x v h1 h2=>absurd h2 (hm0 i x v h1))),fun i x k v h1 h2 h3=>?_,.inl (.head _),fun x c e=>LR.cex x c (hclos2 x c e)⟩
  unfold cLoc at h3
  rw [List.getElem?_map] at h3
  cases q:mp[i]? with
  | none=>rw [q] at h3;trivial
  | some o=>
   cases o with
   | none=>rw [q] at h3;cases h3
   | some j=>
    refine el_AA (mpOk_get hmp q h1) fun rf0 e2 e3=>?_;subst rf0
    rw [q] at h3
    simp only [Option.map_some,Option.some.injEq] at h3
    have hj:m[j]?=some (some v):=by
     cases q2:m[j]? with
     | none=>rw [q2] at h3;trivial
     | some u=>rw [q2] at h3;simp only [Option.join_some] at h3;rw [h3]
    refine el_EEEAAA (LR.cells j x .cell v e2 (.inl rfl) hj) fun c o y f1 f2 f3 f4=>?_
    exact (in_EEEAAA c o y ((hclos x e3).trans f1) f2 f3 f4)
 exact comp_loop (R:=compPost (model g.prog g.w) A E use Q (.ref a) C) (s0:=s0) Tk Se (T C) (Sf C) st pf hB hZ0 z0C nB nC D V1 rfl hm0 (w a hHa) p go3 I3 L3 fun s' Z' H' g1 i1 q=>hfin a C s' Z' H' nC z0C nB g1 i1 q
end
end Mine
namespace Mine
theorem Inv.drop {prog:Program} {w:World} {B:Heap} {Fs:List Addr} {Z:Zone} {H:Hp} {h h':Heap} {C:Addr} (I:Inv prog w B (C::Fs) Z H h) (nC:C∉Fs) (sb:Heap.SameBut C h h'):Inv prog w B Fs Z H h':=by
 obtain ⟨b,z,f,δ,o1,o2,o3⟩:=I
 refine el_AA (f C (.head _)) fun zC hHC u0=>?_
 have k:∀ b o,b≠C→h.get? b=some o→h'.get? b=some o:=fun b o q e=>(sb.2 b q).trans e
 refine ⟨b,fun x y e=>k _ _ (fun q=>by rw [q,zC] at e;trivial) (z x y e),fun x hx=>(in_AA ((f x (.tail _ hx)).1) ((f x (.tail _ hx)).2.1) ?_),δ,fun a y e=>⟨(o1 a y e).1.mono (fun u0 u0 u0 u0 e u0=>e) (fun x=>k _ x fun q=>?_) (fun D fs e' x=>k _ x fun q=>(o3 a D fs (e'▸e)).2.2 (by rw [q];exact .head _)),(o1 a y e).2⟩,o2,fun a D fs e=>(in_AA ((o3 a D fs e).1) ((o3 a D fs e).2.1) (fun q=>(o3 a D fs e).2.2 (.tail _ q)))⟩
 ·obtain ⟨m,e⟩:=(f x (.tail _ hx)).2.2
  exact ⟨m,e.sameBut sb (fun q=>nC (q▸hx))⟩
 ·rw [q,hHC] at e;trivial
section
variable {g:G} {nm:List (Str × NameKind)}
theorem compE.run {Fs:List Addr} {Z:Zone} {H:Hp} {h:Heap} {a:Addr} {Q:QV} (q:compE a Q H) (I:Inv g.prog g.w g.B Fs Z H h):∃ v Z' H',Ext Z Z'∧Inv g.prog g.w g.B Fs Z' H' h∧VR Z' v (.ref a)∧Q v H':=by
 rcases q with q | ⟨vs,e,q⟩
 ·exact (in_EEEAAA (.ref a) Z H (.refl _) I (by rfl) q)
 ·refine el_EEAAA (I.freeze e) fun ys n e1 e2 e3 rt5=>?_;obtain ⟨zn,I'⟩:=rt5
  refine (in_EEEAAA (.lst vs) _ _ (Ext.put zn) I' ?_ q)
  simp only [VR]
  exact (in_EEEAAA a n ys rfl put_at e2 (VRs.mono (Ext.put zn).seq _ _ e3))
theorem comp_fin {M:Model} {A:Around} {E:Value→Shared→Prop} {Fs:List Addr} {Z Z':Zone} {s s':Shared} {H':Hp} {a C:Addr} {Q:QV} (nC:C∉Fs) (go:Go Fs Z s Z' s') (I:Inv g.prog g.w g.B (C::Fs) Z' H' s'.heap) (q:compE a Q H'):compPost M A E none (OkE g Fs Z s Q) (.ref a) C (.ok .next) s':=by
 refine el_AAE (I.frs C (.head _)) fun u0 u0 m hm=>?_
 refine el_EEEAAA (q.run I) fun v Z2 H2 ex I2 vr q=>?_
 refine (in_EA m hm (fun h' sb=>⟨v,Z2,H2,go.trans ⟨ex,fun b hb mm e=>e.sameBut sb (fun q=>nC (q▸hb)),(in_AA rfl rfl rfl)⟩,I2.drop nC sb,vr,q⟩))
theorem new_none {Fs:List Addr} {Z:Zone} {H:Hp} {h:Heap} (I:Inv g.prog g.w g.B Fs Z H h) {b:Addr} (hb:Z b=none):g.B.get? b=none:=by
 cases q:g.B.get? b with
 | none=>rfl
 | some o=>have:=I.base _ _ q;rw [hb] at this;exact this.symm
structure CompK (nm:List (Str × NameKind)) (scope:Scope) (mp:List (Option Nat)):Prop where
 mpk:mpOk nm scope.names mp (freeCell scope.names)=true
 fr:∀ x,(x,NameKind.free)∈scope.names→(x,NameKind.cell)∈nm
 nc:∀ p∈scope.names,p.2≠.cell
 kd:scope.kind=.function
 nd:((freeCell scope.names).map (·.1)).Nodup
 db:∀ p∈freeCell scope.names,(p.1==("__debug__":Str))=false∧(p.1==("__classdict__":Str))=false
 lo:∀ x∈scope.names,x.2=.local→scope.names.lookup x.1=some .local
theorem selfL {A:Around} {Fs:List Addr} {it:Addr}:SelfIt g A Fs (.ref it) (PList it):=by
 rintro xs Z H s Q E ⟨i,o,l,ys,n,e1,e2,e3,-⟩ I h
 exact wpAny_pyIter_listiter (l:=l) (i:=i) ⟨o,I.zin _ _ e1,e2,e3⟩ h
theorem selfR {A:Around} {Fs:List Addr} {it:Addr}:SelfIt g A Fs (.ref it) (PRange it):=by
 rintro xs Z H s Q E ⟨x,left,e1,-⟩ I h
 exact wpAny_pyIter_rangeiter (I.zin _ _ e1) h
theorem snd_compL (G:GlobOk g) {scope:Scope} {mp:List (Option Nat)} {target pelt iter:PySem.Expr} {src el:E} {is:List Nat} {pos:Pos} {nI:List (Str × NameKind)} (K:CompK nm scope mp) (Tk:TakeL g (freeCell scope.names) target (takeIt is (is.length==1))) (Se:Snd g (freeCell scope.names) pelt el) (Ss:Snd g nm iter src)
  (hl:∀ (A:Around) (it:Addr) (s:Shared) (l:Addr) (i:Nat) (v:Value) (Q:Unit→Shared→Prop) (E:Value→Shared→Prop),s.heap.IsListIter it l i→Q () s→wpAny (model g.prog g.w) A (letOwnedTupleGo target (.ref it) v) Q E s)
  (hs:∀ env x,foldedSetIterable iter env x=pure x):Snd g nm (.ListComp pelt [⟨target,iter,[],0⟩] scope pos) (.compL nI mp is src el):=by
 intro n A Fs env m s Z H Q X D V w I L
 cases n with
 | zero=>exact w.elim
 | succ n=>
  refine el_EAA (closure_ok (scope:=scope) (env:=env) fun x hx=>V.ce x (K.fr x hx)) fun cl c1 c2 c3=>?_
  rw [eval_ListComp]
  refine wpAny_comprehension_free (use:=none) rfl (hs env) c1 K.kd K.lo ?_
  show wpAny _ _ (eval iter env) _ _ _
  refine Ss.use D V w I L .refl (fun u0 u0 x=>x) fun y v s1 Z1 H1 go1 I1 L1 u0 vr q=>?_
  refine el_EA (lstW_el q) fun xs rf1 q=>?_;subst rf1
  ·skip
   simp only [VR] at vr
   refine el_EEEAAA vr fun l c ys rf3 e1 e2 e3=>?_;subst rf3
   refine wpAny_pyIter_list (in_EAAE _ (I1.zin _ _ e1) rfl c rfl) ?_
   have ha:=size_none s1.heap
   have ho:(s1.heap.push { cls:=.type "list_iterator",data:=.fields #[.ref l,.int 0 0] }).get? s1.heap.objs.size=some { cls:=.type "list_iterator",data:=.fields #[.ref l,.int 0 0] }:=Heap.get?_push_size _ rfl
   obtain ⟨go2,I2⟩:=Go.grown (t:=s1.toks) I1 (keeps_push _ _) ha ho
   have L2:=L1.go go2 I2 I1.zin
   have zn:=(I1.hNone ha).2.1
   have hB:=new_none I1 zn
   have z0:Z s1.heap.objs.size=none:=by
    cases q:Z s1.heap.objs.size with
    | none=>rfl
    | some o=>have:=go1.ext _ _ q;rw [zn] at this;exact this.symm
   exact comp_block Tk Se K.mpk K.fr K.nc K.kd K.nd K.db (fun C=>turn_list D.handled hB (hl A _)) (fun C=>selfL) PList.st PList.pf (fun b hb=>hb▸hB) (fun b hb=>hb▸z0) G.three D.pred V c2 c3 q
    (in_EE 0 _ ⟨l,ys,c,put_at,rfl,rfl,(Ext.put zn) _ _ e1,VRs.mono (Ext.put zn).seq _ _ (by trivial)⟩) (go1.trans go2) I2 L2 fun a C s' Z' H' nC u0 u0 g3 i3 q3=>comp_fin nC g3 i3 q3
theorem range_iter {A:Around} {Fs:List Addr} {env:Env} {m:Loc} {s s1:Shared} {Z:Zone} {H:Hp} {lo hi':Int} {r:Addr} {t u v:Tok} {K:Value→Shared→Prop} {E:Value→Shared→Prop} (hb:lo.natAbs < 2 ^ 60∧hi'.natAbs < 2 ^ 60) (I:Inv g.prog g.w g.B Fs Z H s.heap) (LR:LocR nm env m Fs Z s.heap) (k1:Keeps s.heap s1.heap) (sm:Same s s1) (hr:IsRange s1.heap r lo hi' 1 t u v)
  (h:∀ it s2 Z2,Z it=none→Go Fs Z s Z2 s2→Inv g.prog g.w g.B Fs Z2 H s2.heap→LocR nm env m Fs Z2 s2.heap→PRange it (vints (rangeL lo hi')) Z2→K (.ref it) s2):wpAny (model g.prog g.w) A (pyIter (.ref r)) K E s1:=by
 refine wpAny_pyIter_range hr (small_one (ln 0x1041f1c0053e40b3c4011c601500111 rfl hb.1 neg_abs) (ln 0x1041f0c3e4000b3c4011c60100111 rfl hb.1 Int.le_natAbs) (ln 0x1041f1c0053e40b3c4011c601500111 rfl hb.2 neg_abs) (ln 0x1041f0c3e4000b3c4011c60100111 rfl hb.2 Int.le_natAbs)) ?_
 have I1:=I.grow k1
 have go1:Go Fs Z s Z s1:=⟨.refl _,.of_keeps k1,sm⟩
 have L1:=LR.go go1 I1 I.zin
 have ha:=size_none s1.heap
 have ho:(s1.heap.push { cls:=.type "range_iterator",data:=.fields #[rawInt lo,rawInt (Builtin.Range.rangeSize lo hi' 1),rawInt 1] }).get? s1.heap.objs.size=some { cls:=.type "range_iterator",data:=.fields #[rawInt lo,rawInt (Builtin.Range.rangeSize lo hi' 1),rawInt 1] }:=Heap.get?_push_size _ rfl
 obtain ⟨go2,I2⟩:=Go.grown (t:=s1.toks) I1 (keeps_push _ _) ha ho
 have L2:=L1.go go2 I2 I1.zin
 have zn:=(I1.hNone ha).2.1
 refine h _ _ _ zn (go1.trans go2) I2 L2 (in_EEA lo _ put_at ?_)
 unfold vints rangeL
 rw [rangeSize_one,List.map_map]
 rw [clip_nat]
 rfl
theorem range_src (G:GlobOk g) {y:Str} {p1 p2:Pos} {pu:PySem.Expr} {u:E} (hm:(y,NameKind.globalImplicit)∈nm) (hj:(y,Value.type "range")∈BT) (Su:Snd g nm pu u) {n:Nat} {A:Around} {Fs:List Addr} {env:Env} {m:Loc} {s:Shared} {Z:Zone} {H:Hp} {W:Int→Hp→Prop} {X:QX} {K:Value→Shared→Prop}
  (D:Gd A Fs n) (V:EnvOk env nm) (w:wE g n u m (fun x H1=>match x with | .int c=>c.natAbs < 2 ^ 60∧W c H1 | _=>False) X H) (I:Inv g.prog g.w g.B Fs Z H s.heap) (L:LocR nm env m Fs Z s.heap)
  (hst:∀ env,starEach [pu] env=[(false,eval pu env)])
  (h:∀ c it s2 Z2 H2,Z it=none→Go Fs Z s Z2 s2→Inv g.prog g.w g.B Fs Z2 H2 s2.heap→LocR nm env m Fs Z2 s2.heap→PRange it (vints (rangeL 0 c)) Z2→W c H2→K (.ref it) s2) :
  wpAny (model g.prog g.w) A (eval (.Call (.Name y p1) [pu] [] p2) env) (fun x s1=>wpAny (model g.prog g.w) A (pyIter x) K (ExE g Fs Z s X) s1) (ExE g Fs Z s X) s:=by
 show wpAny _ _ (eval (.Name y p1) env >>= fun fv=>callWith p2 fv [] (backTo p2 (starEach [pu] env)) []) _ _ _
 refine wpAny_bind (blt_any G hm hj V I ?_)
 rw [one_star hst]
 refine callWith_of (P:=fun u0=>True) rfl (fun u0 u0=>(in_EA .machine (.inr (.inl rfl)) .now)) (evalArgs_all rfl (spliced_cons (Su.use D V w I L .refl (fun u0 u0 x=>x) fun y2 v2 s2 Z2 H2 go2 I2 L2 u0 vr w2=>?_)))
 refine spliced_nil ⟨trivial,?_⟩
 cases v2 with
 | int c=>
  simp only [VR] at vr
  obtain ⟨t,rfl⟩:=vr
  refine call_range_1 ?_
  refine range_iter ⟨by exact Nat.succ_pos _,w2.1⟩ I2 L2 (keeps_push _ _) (in_AA rfl rfl rfl) (Heap.get?_push_size _ rfl) fun it s3 Z3 z3 go3 I3 L3 p3=>?_
  refine h c it s3 Z3 H2 ?_ (go2.trans go3) I3 L3 p3 w2.2
  cases q:Z it with
  | none=>rfl
  | some o=>have:=go2.ext _ _ q;rw [z3] at this;trivial
 | _=>exact w2.elim
theorem snd_compR (G:GlobOk g) {scope:Scope} {mp:List (Option Nat)} {x y:Str} {p p1 p2:Pos} {pelt pu:PySem.Expr} {u el:E} {i:Nat} {pos:Pos} {nI:List (Str × NameKind)} (K:CompK nm scope mp) (hm:(y,NameKind.globalImplicit)∈nm) (hj:(y,Value.type "range")∈BT) (hi:(freeCell scope.names)[i]?=some (x,.local)) (Se:Snd g (freeCell scope.names) pelt el) (Su:Snd g nm pu u)
  (hst:∀ env,starEach [pu] env=[(false,eval pu env)])
  (hs:∀ env x,foldedSetIterable (.Call (.Name y p1) [pu] [] p2) env x=pure x):Snd g nm (.ListComp pelt [⟨.Name x p,.Call (.Name y p1) [pu] [] p2,[],0⟩] scope pos) (.compR nI mp i u el):=by
 intro n A Fs env m s Z H Q X D V w I L
 cases n with
 | zero=>exact w.elim
 | succ n=>
  refine el_EAA (closure_ok (scope:=scope) (env:=env) fun x hx=>V.ce x (K.fr x hx)) fun cl c1 c2 c3=>?_
  rw [eval_ListComp]
  refine wpAny_comprehension_free (use:=none) rfl (hs env) c1 K.kd K.lo ?_
  refine range_src G hm hj Su (W:=fun c H1=>∀ a,H1 a=none→compW (fun v Q' H'=>wE g n el ((cLoc mp m).set i (some v)) Q' (fun u0 u0=>False) H') a (vints (rangeL 0 c)) (compE a Q) (put H1 a (.list []))) D V w I L hst fun c it s2 Z2 H2 z0 go2 I2 L2 p2 w2=>?_
  have hB:g.B.get? it=none:=new_none I z0
  exact comp_block (takeL_name hi) Se K.mpk K.fr K.nc K.kd K.nd K.db (fun C=>turn_range D.handled hB) (fun C=>selfR) PRange.st PRange.pf (fun b hb=>hb▸hB) (fun b hb=>hb▸z0) G.three D.pred V c2 c3 w2 p2 go2 I2 L2
   fun a C s' Z' H' nC u0 u0 g3 i3 q3=>comp_fin nC g3 i3 q3
end
end Mine
namespace Mine
section
variable {g:G} {nm:List (Str × NameKind)}
theorem swaps_true {scope:Scope} {pelt:PySem.Expr} {gens:List Comprehension} {pos py:Pos} {line:Nat} {i:Nat} {y:Str} {env:Env} (V:EnvOk env nm) (hi:nm[i]?=some (y,.local)) (hl:(py.line==pos.line)=true) (hn:(scope.names.any fun (p:Str × NameKind)=>p.1==y&&(p.2==.local||p.2==.cell))=false) :
  swapsWith (.ListComp pelt gens scope pos) (some (.Name y py)) line env=pure true:=by
 have kb:env.blockKind=.function:=by unfold Env.blockKind;rw [V.kd];rfl
 have k:=kind_of V hi
 unfold swapsWith
 simp only [bind_pure_comp]
 rw [kb,k]
 have:(Expr.ListComp pelt gens scope pos).pos=pos:=rfl
 rw [this,hl,hn]
 rfl
theorem comp_fin_use {A:Around} {L:Addr} {Fc:List Addr} {env:Env} {m:Loc} {i:Nat} {y:Str} {py:Pos} {Z0 Z Z':Zone} {s0 s s':Shared} {H':Hp} {a C:Addr} {N:QN} {R:QV} {X:QX} (hi:nm[i]?=some (y,.local)) (V:EnvOk env nm) (O:FnOk env L Fc Z0) (B0:∀ b o,g.B.get? b=some o→Z0 b=some o) (go0:Go Fc Z0 s0 Z s) (Iz:∀ b o,Z b=some o→s.heap.get? b=some o) (LR:LocR nm env m (L::Fc) Z s.heap)
  (nC:C∉L::Fc) (zC:Z C=none) (nB:g.B.get? C=none) (go:Go (L::Fc) Z s Z' s') (I:Inv g.prog g.w g.B (C::L::Fc) Z' H' s'.heap) (q:compE a (fun v H1=>N (m.set i (some v)) H1) H') :
  compPost (model g.prog g.w) A (ExS g L Fc Z0 s0 X) (some (assign (.Name y py) env)) (fun u0 s'=>OkS g nm env L Fc Z0 s0 N R .next s') (.ref a) C (.ok .next) s':=by
 refine el_EEEAAA (q.run I) fun v Z2 H2 ex I2 vr q=>?_
 refine el_AAE (I2.frs C (.head _)) fun zC2 u0 mC hm=>?_
 obtain ⟨oC,hoC⟩:∃ o,s'.heap.get? C=some o:=let ⟨o,_,_,e,_⟩:=hm;⟨o,e⟩
 have dC:∀ u,oC.data≠.cell u:=fun u q=>by
  refine el_EEEAA hm fun o es ep e d u0=>?_
  rw [hoC] at e;cases e;rw [q] at d;trivial
 have I3:=I2.toZ hoC nC
 have ex3:Ext Z (put Z2 C oC):=(go.ext.trans ex).trans (Ext.put zC2)
 have go3:Go (L::Fc) Z s (put Z2 C oC) s':=⟨ex3,go.frk,go.same⟩
 have L3:=LR.go go3 I3 Iz
 have noCz:∀ b o,noC env (put Z2 C oC) b=some o→put Z2 C oC b=some o:=fun b o e=>by
  unfold noC at e
  split at e
  ·trivial
  ·exact e
 have zno:∀ b o,Z0 b=some o→noC env (put Z2 C oC) b=some o:=fun b o e=>by
  unfold noC
  rw [if_neg (fun ⟨x,hx⟩=>by have:=O.cz x b hx;rw [e] at this;trivial)]
  exact ex3 _ _ (go0.ext b o e)
 have zCn:noC env (put Z2 C oC) C=some oC:=by
  unfold noC
  rw [if_neg (fun ⟨x,hx⟩=>by refine el_EEA (L3.cex x C hx) fun o' u e1 e2=>?_;rw [put_at] at e1;cases e1;exact dC u e2)]
  exact put_at
 have O1:FnOk env L Fc (noC env (put Z2 C oC)):=⟨O.loc,O.nL,fun x c e=>by unfold noC;rw [if_pos ⟨x,e⟩],O.cinj⟩
 have B1:∀ b o,g.B.get? b=some o→noC env (put Z2 C oC) b=some o:=fun b o e=>zno b o (B0 b o e)
 show wpAny _ _ (assign (.Name y py) env (.ref a)) _ _ _
 refine wpAny_assign_Name (store_any hi (.inl rfl) V O1 B1 I3 L3 ⟨noCz,.refl _ _,.refl _⟩ (VR.mono (Ext.put zC2).seq _ _ vr) fun s4 Z4 go4 I4 L4 u0=>?_)
 have hZ4:Z4 C=some oC:=go4.ext _ _ zCn
 have ns4:s4.heap.Ns C mC:=by
  refine el_EEEA hm fun o es ep e r=>?_
  rw [hoC] at e;cases e
  exact (in_EEEA oC es ep (I4.zin _ _ hZ4) r)
 refine (in_EA mC ns4 (fun h' sb=>?_))
 have I5:=(I4.toF hZ4 ns4 nB).drop nC sb
 have nL:L≠C:=fun q=>nC (q▸.head _)
 have sub:∀ b o,Z0 b=some o→del Z4 C b=some o:=fun b o e=>by
  have hb:b≠C:=fun q=>by have:=go0.ext b o e;rw [q,zC] at this;trivial
  rw [del_ne hb];exact go4.ext _ _ (zno b o e)
 have sx:SeqExt Z4 (del Z4 C):=fun b o ys n e1 e2=>by
  by_cases hb:b=C
  ·rw [hb,hZ4] at e1;cases e1
   refine el_EEEAA hm fun o es ep e d u0=>?_
   rw [hoC] at e;cases e;rw [e2] at d;trivial
  ·rw [del_ne hb];exact e1
 have cc:∀ c o u,Z4 c=some o→o.data=.cell u→del Z4 C c=some o:=fun c o u e1 e2=>by
  rw [del_ne (fun q=>by rw [q,hZ4] at e1;cases e1;exact dC u e2)];exact e1
 refine ⟨_,del Z4 C,H2,⟨sub,fun b hb mm e=>?_,(go0.same.trans go.same).trans go4.same⟩,I5,?_,q⟩
 ·have hb':b≠C:=fun q=>nC (q▸.tail _ hb)
  exact (go4.frk b hb mm (go.frk b (.tail _ hb) mm (go0.frk b hb mm e))).sameBut sb hb'
 ·obtain ⟨⟨m',n1,n2⟩,cs,lo,ce⟩:=L4
  refine ⟨⟨m',?_,fun j x v a b=>let ⟨y,e1,e2⟩:=n2 j x v a b;⟨y,e1,VR.mono sx _ _ e2⟩⟩,fun j x k v a b c=>let ⟨c',o,y,e1,e2,e3,e4⟩:=cs j x k v a b c;⟨c',o,y,e1,cc _ _ _ e2 e3,e3,VR.mono sx _ _ e4⟩,.inl (by rw [O.loc];exact .head _),fun x c e=>let ⟨o,u,e1,e2⟩:=ce x c e;⟨o,u,cc _ _ _ e1 e2,e2⟩⟩
  exact n1.sameBut sb (by rw [O.loc];exact nL)
theorem sndS_asgCL (G:GlobOk g) {scope:Scope} {mp:List (Option Nat)} {target pelt iter:PySem.Expr} {src el:E} {is:List Nat} {pos py spos:Pos} {nI:List (Str × NameKind)} {i:Nat} {y:Str} (hi:nm[i]?=some (y,.local)) (K:CompK nm scope mp) (Tk:TakeL g (freeCell scope.names) target (takeIt is (is.length==1))) (Se:Snd g (freeCell scope.names) pelt el) (Ss:Snd g nm iter src)
  (hl:∀ (A:Around) (it:Addr) (s:Shared) (l:Addr) (i:Nat) (v:Value) (Q:Unit→Shared→Prop) (E:Value→Shared→Prop),s.heap.IsListIter it l i→Q () s→wpAny (model g.prog g.w) A (letOwnedTupleGo target (.ref it) v) Q E s)
  (hln:(py.line==pos.line)=true) (hno:(scope.names.any fun (p:Str × NameKind)=>p.1==y&&(p.2==.local||p.2==.cell))=false)
  (hs:∀ env x,foldedSetIterable iter env x=pure x):SndS g nm (.Assign [.Name y py] (.ListComp pelt [⟨target,iter,[],0⟩] scope pos) spos) (.asg i (.compL nI mp is src el)):=by
 intro n A L Fc env m Z0 s0 s Z H N R X D V O B0 w go I LR
 cases n with
 | zero=>exact w.elim
 | succ n=>
  refine el_EAA (closure_ok (scope:=scope) (env:=env) fun x hx=>V.ce x (K.fr x hx)) fun cl c1 c2 c3=>?_
  rw [exec_Assign_Name_used _ _ _ _ (swaps_true V hi hln hno)]
  refine wpAny_bind (wpAny_standAt (wpAny_bind ?_))
  show wpAny _ A (do let _ ← comprehension (.ListComp pelt [⟨target,iter,[],0⟩] scope pos) scope env _ (newList []) false (eval iter env) (some (assign (.Name y py) env))) _ _ s
  refine wpAny_bind (wpAny_mono (wpAny_comprehension_free (use:=some (assign (.Name y py) env)) (Q:=fun u0 s'=>OkS g nm env L Fc Z0 s0 N R .next s') rfl (hs env) c1 K.kd K.lo ?_) (fun u0 s' hq=>wpAny_pure (wpAny_pure hq)) fun u0 u0 e=>e)
  refine Ss.stm D V w I LR go fun yv v s1 Z1 H1 go1 I1 L1 u0 vr q=>?_
  refine el_EA (lstW_el q) fun xs rf1 q=>?_;subst rf1
  ·skip
   simp only [VR] at vr
   refine el_EEEAAA vr fun l c ys rf3 e1 e2 e3=>?_;subst rf3
   refine wpAny_pyIter_list (in_EAAE _ (I1.zin _ _ e1) rfl c rfl) ?_
   have ha:=size_none s1.heap
   have ho:(s1.heap.push { cls:=.type "list_iterator",data:=.fields #[.ref l,.int 0 0] }).get? s1.heap.objs.size=some { cls:=.type "list_iterator",data:=.fields #[.ref l,.int 0 0] }:=Heap.get?_push_size _ rfl
   obtain ⟨go2,I2⟩:=Go.grown (t:=s1.toks) I1 (keeps_push _ _) ha ho
   have L2:=L1.go go2 I2 I1.zin
   have zn:=(I1.hNone ha).2.1
   have hB:=new_none I1 zn
   refine comp_block (Z0:=Z1) (s0:=s1) (QVV:=fun v H1=>N (m.set i (some v)) H1) Tk Se K.mpk K.fr K.nc K.kd K.nd K.db (fun C=>turn_list D.handled hB (hl A _)) (fun C=>selfL) PList.st PList.pf (fun b hb=>hb▸hB) (fun b hb=>hb▸zn) G.three D.pred V c2 c3 q
    (in_EE 0 _ ⟨l,ys,c,put_at,rfl,rfl,(Ext.put zn) _ _ e1,VRs.mono (Ext.put zn).seq _ _ (by trivial)⟩) go2 I2 L2 fun a C s' Z' H' nC zC nB g3 i3 q3=>comp_fin_use hi V O B0 go1 I1.zin L1 nC zC nB g3 i3 q3
theorem sndS_asgCR (G:GlobOk g) {scope:Scope} {mp:List (Option Nat)} {x z:Str} {p p1 p2:Pos} {pelt pu:PySem.Expr} {u el:E} {j:Nat} {pos py spos:Pos} {nI:List (Str × NameKind)} {i:Nat} {y:Str} (hi:nm[i]?=some (y,.local)) (K:CompK nm scope mp) (hm:(z,NameKind.globalImplicit)∈nm) (hj:(z,Value.type "range")∈BT) (hx:(freeCell scope.names)[j]?=some (x,.local)) (Se:Snd g (freeCell scope.names) pelt el) (Su:Snd g nm pu u)
  (hln:(py.line==pos.line)=true) (hno:(scope.names.any fun (p:Str × NameKind)=>p.1==y&&(p.2==.local||p.2==.cell))=false)
  (hst:∀ env,starEach [pu] env=[(false,eval pu env)])
  (hs:∀ env x,foldedSetIterable (.Call (.Name z p1) [pu] [] p2) env x=pure x):SndS g nm (.Assign [.Name y py] (.ListComp pelt [⟨.Name x p,.Call (.Name z p1) [pu] [] p2,[],0⟩] scope pos) spos) (.asg i (.compR nI mp j u el)):=by
 intro n A L Fc env m Z0 s0 s Z H N R X D V O B0 w go I LR
 cases n with
 | zero=>exact w.elim
 | succ n=>
  refine el_EAA (closure_ok (scope:=scope) (env:=env) fun x hx=>V.ce x (K.fr x hx)) fun cl c1 c2 c3=>?_
  rw [exec_Assign_Name_used _ _ _ _ (swaps_true V hi hln hno)]
  refine wpAny_bind (wpAny_standAt (wpAny_bind ?_))
  show wpAny _ A (do let _ ← comprehension (.ListComp pelt [⟨.Name x p,.Call (.Name z p1) [pu] [] p2,[],0⟩] scope pos) scope env _ (newList []) false (eval (.Call (.Name z p1) [pu] [] p2) env) (some (assign (.Name y py) env))) _ _ s
  refine wpAny_bind (wpAny_mono (wpAny_comprehension_free (use:=some (assign (.Name y py) env)) (Q:=fun u0 s'=>OkS g nm env L Fc Z0 s0 N R .next s') rfl (hs env) c1 K.kd K.lo ?_) (fun u0 s' hq=>wpAny_pure (wpAny_pure hq)) fun u0 u0 e=>e)
  refine wpAny_mono (range_src G hm hj Su (W:=fun c H1=>∀ a,H1 a=none→compW (fun v Q' H'=>wE g n el ((cLoc mp m).set j (some v)) Q' (fun u0 u0=>False) H') a (vints (rangeL 0 c)) (compE a fun v H1=>N (m.set i (some v)) H1) (put H1 a (.list []))) D V w I LR hst
   (K:=fun it s2=>wpAny (model g.prog g.w) A (newList []) (fun acc s₃=>wpAny (model g.prog g.w) A (newFunctionEnv scope env.globals cl [] env.qual none .none (some env)) (fun cenv s₄=>
   codeAny (model g.prog g.w) A (.compStart (.ListComp pelt [⟨.Name x p,.Call (.Name z p1) [pu] [] p2,[],0⟩] scope pos) 0 it acc { cenv with scope:=relabel scope env }) (compPost (model g.prog g.w) A (ExS g L Fc Z0 s0 X) (some (assign (.Name y py) env)) (fun u0 s'=>OkS g nm env L Fc Z0 s0 N R .next s') acc cenv.locals) s₄) (ExS g L Fc Z0 s0 X) s₃) (ExS g L Fc Z0 s0 X) s2)
   fun c it s2 Z2 H2 z0 go2 I2 L2 p2 w2=>?_) (fun u0 u0 h=>wpAny_mono h (fun u0 u0 q=>q) fun u0 u0 e=>e.toS go) fun u0 u0 e=>e.toS go
  have hB:g.B.get? it=none:=new_none I z0
  exact comp_block (takeL_name hx) Se K.mpk K.fr K.nc K.kd K.nd K.db (fun C=>turn_range D.handled hB) (fun C=>selfR) PRange.st PRange.pf (fun b hb=>hb▸hB) (fun b hb=>hb▸z0) G.three D.pred V c2 c3 w2 p2 go2 I2 L2
   fun a C s' Z' H' nC zC nB g3 i3 q3=>comp_fin_use hi V O B0 go I.zin LR nC zC nB g3 i3 q3
end
end Mine
namespace Mine
theorem Inv.enterC {prog:Program} {w:World} {B:Heap} {Fs:List Addr} {Z Z':Zone} {H:Hp} {h h':Heap} {L:Addr} {m:Str→Option Value} (I:Inv prog w B Fs Z H h) (k:Keeps h h') (hL:h.get? L=none) (hn:h'.Ns L m) (hz:Ext Z Z')
  (hz':∀ b o,Z' b=some o→h'.get? b=some o∧(Z b≠none∨(h.get? b=none∧b≠L))):Inv prog w B (L::Fs) Z' H h':=by
 refine el_AA (I.hNone hL) fun n1 n2 n3=>?_
 have I':=I.grow k
 obtain ⟨b,z,f,-⟩:=I'
 obtain ⟨bb,zz,ff,δ,o1,o2,o3⟩:=I
 have zn:∀ b,Z b=none→h.get? b≠none→Z' b=none:=fun b e1 e2=>by
  cases q:Z' b with
  | none=>rfl
  | some o=>
   rcases (hz' b o q).2 with q | q
   ·exact absurd e1 q
   ·exact absurd q.1 e2
 have inst_some:∀ a C fs,H a=some (.inst C fs)→∃ x,h.get? (δ a)=some x:=fun a C fs e=>by refine el_AA ((o1 a _ e).1) fun u0 rt1 u0=>?_;obtain ⟨es,n,e2,-⟩:=rt1;exact ⟨_,e2⟩
 refine ⟨fun x y e=>hz _ _ (bb x y e),fun x y e=>(hz' x y e).1,fun x hx=>?_,δ,fun a o e=>(in_AA ((o1 a o e).1.mono hz.seq (fun x=>k _ x) (fun u0 u0 u0 x=>k _ x)) ?_ ((o1 a o e).2.2)),o2,fun a C fs e=>(in_AA ?_ ((o3 a C fs e).2.1) (fun q=>?_))⟩
 ·rcases List.mem_cons.mp hx with rfl | hx
  ·refine (in_AAE ?_ n1 m hn)
   cases q:Z' x with
   | none=>rfl
   | some o=>
    rcases (hz' x o q).2 with q | q
    ·exact absurd n2 q
    ·exact absurd rfl q.2
  ·refine ⟨?_,(f x hx).2⟩
   refine el_EEEEA ((ff x hx).2.2) fun mm o es ep e u0=>?_
   exact zn x (ff x hx).1 (by rw [e];simp)
 ·obtain ⟨x,e'⟩:=(o1 a o e).1.some
  exact zn a (o1 a o e).2.1 (by rw [e'];simp)
 ·obtain ⟨x,e'⟩:=inst_some a C fs e
  exact zn _ (o3 a C fs e).1 (by rw [e'];simp)
 ·rcases List.mem_cons.mp q with q | q
  ·obtain ⟨x,e2⟩:=inst_some a C fs e;rw [q,hL] at e2;trivial
  ·exact (o3 a C fs e).2.2 q
theorem bindL_other {kindOf:Str→Option NameKind} {x:Str}:∀ {l:List (Str × Value)} {m:Str→Option Value},x∉l.map (·.1)→bindL kindOf l m x=m x
 | [],_,_=>rfl
 | (n,v)::r,m,h=>by
  simp only [List.map_cons,List.mem_cons,not_or] at h
  rw [bindL,bindL_other h.2]
  split
  ·exact if_neg h.1
  ·rfl
theorem bindL_get {kindOf:Str→Option NameKind} {x:Str} {y:Value} (hk:kindOf x=some .local):∀ {l:List (Str × Value)} {m:Str→Option Value},(l.map (·.1)).Nodup→(x,y)∈l→bindL kindOf l m x=some y
 | [],_,_,h=>nomatch h
 | (n,v)::r,m,nd,h=>by
  simp only [List.map_cons,List.nodup_cons] at nd
  rcases List.mem_cons.mp h with e | h
  ·cases e
   rw [bindL,bindL_other nd.1,if_pos hk,if_pos rfl]
  ·rw [bindL];exact bindL_get hk nd.2 h
theorem bindC_other {kindOf:Str→Option NameKind} {x:Str}:∀ {l:List (Str × Value)} {m:Str→Option Value},x∉l.map (·.1)→bindC kindOf l m x=m x
 | [],_,_=>rfl
 | (n,v)::r,m,h=>by
  simp only [List.map_cons,List.mem_cons,not_or] at h
  rw [bindC,bindC_other h.2]
  split
  ·rfl
  ·exact if_neg h.1
theorem bindC_get {kindOf:Str→Option NameKind} {x:Str} {y:Value} (hk:kindOf x≠some .local):∀ {l:List (Str × Value)} {m:Str→Option Value},(l.map (·.1)).Nodup→(x,y)∈l→bindC kindOf l m x=some y
 | [],_,_,h=>nomatch h
 | (n,v)::r,m,nd,h=>by
  simp only [List.map_cons,List.nodup_cons] at nd
  rcases List.mem_cons.mp h with e | h
  ·cases e
   rw [bindC,bindC_other nd.1,if_neg hk,if_pos rfl]
  ·rw [bindC];exact bindC_get hk nd.2 h
theorem cellsFrom_acc:∀ (l:List (Str × NameKind)) (n:Nat) (acc:List (Str × Addr)) (x:Str),(acc.lookup x).isSome=true→((cellsFrom n l acc).lookup x).isSome=true
 | []=>@fun u0 u0 u0 h=>h
 | (y,k)::r=>@fun n acc x h=>by
  rw [cellsFrom]
  split
  ·refine cellsFrom_acc r _ _ x ?_
   rw [List.lookup_cons]
   split
   ·rfl
   ·exact h
  ·exact cellsFrom_acc r _ _ x h
theorem cellsFrom_some:∀ (l:List (Str × NameKind)) (n:Nat) (acc:List (Str × Addr)) (x:Str),(x,NameKind.cell)∈l→((cellsFrom n l acc).lookup x).isSome=true
 | []=>@fun u0 u0 u0 h=>nomatch h
 | (y,k)::r=>@fun n acc x h=>by
  rw [cellsFrom]
  rcases List.mem_cons.mp h with e | h
  ·cases e
   rw [if_pos (by rfl)]
   exact cellsFrom_acc r _ _ _ (by rw [List.lookup_cons];simp)
  ·split<;>exact cellsFrom_some r _ _ x h
theorem lookup_mem' {α:Type} {x:Str} {c:α}:∀ {l:List (Str × α)},l.lookup x=some c→(x,c)∈l
 | []=>@fun h=>by trivial
 | (y,d)::r=>@fun h=>by
  rw [List.lookup_cons] at h
  by_cases q:(x==y)=true
  ·rw [q] at h;cases h;rw [beq_iff_eq.mp q];exact .head _
  ·rw [Bool.not_eq_true] at q;rw [q] at h;exact .tail _ (lookup_mem' h)
theorem apart_inj {x y:Str} {c:Addr}:∀ {l:List (Str × Addr)},l.Pairwise (fun x y=>x.2≠y.2)→(x,c)∈l→(y,c)∈l→x=y
 | []=>@fun u0 h u0=>nomatch h
 | p::r=>@fun pw h1 h2=>by
  have pw':=List.pairwise_cons.mp pw
  rcases List.mem_cons.mp h1 with e1 | h1<;>rcases List.mem_cons.mp h2 with e2 | h2
  ·rw [← e1] at e2;cases e2;rfl
  ·rw [← e1] at pw';exact absurd rfl (pw'.1 (y,c) h2)
  ·rw [← e2] at pw';exact absurd rfl (pw'.1 (x,c) h1)
  ·exact apart_inj pw'.2 h1 h2
inductive FnAtC (K:Frag) (f:Addr) (params:Arguments) (body:List Stmt) (scope:Scope) (pn:List (Str × NameKind)):Prop
 | mk (oc:Value) (od:Option Addr) (osl:Array (Option Value)) (name qual:Str) (dV kV doc pm:Value) (an:Option Addr) (cdv ct:Value) (hl:K.lookup f=some ⟨oc,od,.func (fnOf name qual params body scope dV kV doc pm an cdv ct),osl⟩) (hc:codeIn K cdv qual=true)
  (hb:∀ (ys:List Value),ys.length=pn.length→bindArgs (fnOf name qual params body scope dV kV doc pm an cdv ct) ⟨ys,[]⟩=pure ((pn.map (·.1)).zip ys)):FnAtC K f params body scope pn
structure DefKC (g:G) (f:Addr) (params:Arguments) (body:List Stmt) (scope:Scope) (pn:List (Str × NameKind)):Prop where
 lk:FnAtC g.K f params body scope pn
 kd:scope.kind=.function
 co:scope.isCoroutine=false
 ge:scope.isGenerator=false
 nd:(scope.names.map (·.1)).Nodup
 db:∀ p∈scope.names,(p.1==("__debug__":Str))=false∧(p.1==("__classdict__":Str))=false
 ps:scope.names.take pn.length=pn
 pk:∀ p∈pn,p.2=.local∨p.2=.cell
section
variable {g:G}
theorem callC_defC (G:GlobOk g) {f:Addr} {params:Arguments} {body:List Stmt} {scope:Scope} {pn:List (Str × NameKind)} (K:DefKC g f params body scope pn) {b:List S} (Sb:SndSs g scope.names body b) {n:Nat} {args:List V} {Q:QV} {X:QX} {H:Hp}
  (hl:args.length=pn.length) (w:wSs g n b (startLoc args scope.names.length) (fun u0 H=>Q .none H) Q X H):CallC g (n+1) f args Q X H:=by
 refine ⟨fun A Fs s Z ys D I r=>?_⟩
 obtain ⟨oc,od,osl,name,qual,dV,kV,doc,pm,an,cdv,ct,hlk,hcd,hb⟩:=K.lk
 have kB:∀ b o,g.B.get? b=some o→s.heap.get? b=some o:=fun b o e=>I.zin _ _ (I.base _ _ e)
 have K1:g.K.In s.heap:=G.kin.keeps kB
 have hlen:=r.length
 have hbind:=hb ys (ln 0x7e10617c1f2b21112b21012b1101130 rfl hl hlen)
 have hpm:((pn.map (·.1)).zip ys).map (·.1)=pn.map (·.1):=by rw [List.map_fst_zip];rw [List.length_map];exact ln 0x217c1f1b11212b21012b1101130 rfl hl hlen
 have pnd:(pn.map (·.1)).Nodup:=by rw [← K.ps,List.map_take];exact (List.take_sublist _ _).nodup K.nd
 have hpn:∀ p∈pn,p∈scope.names:=fun p hp=>List.mem_of_mem_take (i:=pn.length) (by rw [K.ps];exact hp)
 have hkind:∀ x∈(pn.map (·.1)).zip ys,scope.names.lookup x.1=some .local∨(scope.names.lookup x.1=some .cell∧((cellsFrom (s.heap.objs.size+1) scope.names []).lookup x.1).isSome=true):=fun x hx=>by
  have h1:x.1∈pn.map (·.1):=by rw [← hpm];exact List.mem_map_of_mem hx
  refine el_EA (List.mem_map.mp h1) fun rt0 hp e=>?_;obtain ⟨y,k⟩:=rt0
  dsimp only at e
  subst e
  rcases K.pk _ hp with e | e<;>dsimp only at e<;>subst e
  ·exact .inl (lookup_mem K.nd (hpn _ hp))
  ·exact .inr ⟨lookup_mem K.nd (hpn _ hp),cellsFrom_some _ _ _ _ (hpn _ hp)⟩
 refine codeAny_call_cells (fd:=fnOf name qual params body scope dV kV doc pm an cdv ct) (body:=body) (by have:=D.depth;exact ln 0x41f0b21010b21900000014390479121101130 rfl this) (K1 _ _ hlk) rfl (G.lim.keeps kB) (codeRec_of K1 hcd) rfl hbind rfl hkind (fun s1 X1=>?_) K.co K.ge K.kd
 have hLn:=size_none s.heap
 refine el_EEA X1.done fun h1 tk rf2 hkeep=>?_;subst rf2
 have hcell:=X1.cell
 have hns:=X1.toInCall.ns
 have hab:=X1.above
 have hap:=X1.apart
 generalize henv:callEnvC (fnOf name qual params body scope dV kV doc pm an cdv ct) s.heap.objs.size f=env at hcell hns hab hap ⊢
 have eL:env.locals=s.heap.objs.size:=by rw [← henv];rfl
 have eS:env.scope=scope:=by rw [← henv];rfl
 have eF:env.frame=some s.heap.objs.size:=by rw [← henv];rfl
 have eC:env.cells=cellsFrom (s.heap.objs.size+1) scope.names []:=by rw [← henv];rfl
 have eG:env.globals=mainGlobals:=by rw [← henv];rfl
 have eB:env.builtins=builtinsNs:=by rw [← henv];rfl
 clear henv
 rw [eL] at hns hab
 have hko:∀ (i:Nat) x k,scope.names[i]?=some (x,k)→env.kindOf x=some k:=fun i x k h=>by show env.scope.names.lookup x=_;rw [eS];exact lookup_get K.nd h
 have hcn:∀ x c,env.cells.lookup x=some c→s.heap.get? c=none∧c≠s.heap.objs.size:=fun x c e=>by
  have:=hab x c (lookup_mem' e)
  exact ⟨get_ge (Nat.le_of_lt this),Nat.ne_of_gt this⟩
 have V:EnvOk env scope.names:=⟨by exact congrArg _ eS,by rw [eS];exact K.kd,eG,eB,K.nd,fun x hx=>by rw [eC];exact cellsFrom_some _ _ _ _ hx,K.db⟩
 have nL:s.heap.objs.size∉Fs:=(I.hNone hLn).2.2
 have O:FnOk env s.heap.objs.size Fs Z:=⟨eL,nL,fun x c e=>(I.hNone (hcn x c e).1).2.1,fun x y c e1 e2=>apart_inj hap (lookup_mem' e1) (lookup_mem' e2)⟩
 refine el_EAA D.frames fun fl fr1 fr2 fr3=>?_
 have D':Gd (A.deeper env) (s.heap.objs.size::Fs) n:=by
  refine ⟨(in_EAA _ (Around.frames_deeper fr1) ?_ ?_),D.handled,?_,?_⟩
  ·rw [List.filterMap_cons,eF];exact congrArg _ fr2
  ·intro c hc
   rcases List.mem_cons.mp hc with rfl | hc
   ·exact ⟨by rw [eS,K.kd];decide,_,eF⟩
   ·exact fr3 c hc
  ·have:=D.depth;show A.depth+1+4*n+20 < _;exact ln 0x41f0b219000000143904711912010b21900000014390479121101130 rfl this
  ·have:=D.units;show A.units+3+20*n+100 < _;exact ln 0x41f0b219000000643914711932010b21900000064391479121101130 rfl this
 let Z1:Zone:=fun b=>match Z b with
  | some o=>some o
  | none=>if env.cells.any (fun p=>p.2==b) then h1.get? b else none
 have zEx:Ext Z Z1:=fun b o e=>by show (match Z b with | some o=>some o | none=>_)=_;rw [e]
 have zC:∀ x c,env.cells.lookup x=some c→Z1 c=h1.get? c:=fun x c e=>by
  show (match Z c with | some o=>some o | none=>_)=_
  rw [(I.hNone (hcn x c e).1).2.1]
  have:env.cells.any (fun p=>p.2==c)=true:=List.any_eq_true.mpr (in_EA _ (lookup_mem' e) (by exact decide_eq_true rfl))
  simp only [this,if_true]
 have I1:Inv g.prog g.w g.B (s.heap.objs.size::Fs) Z1 H h1:=by
  refine I.enterC hkeep hLn hns zEx fun b o e=>?_
  change (match Z b with | some o=>some o | none=>_)=_ at e
  cases q:Z b with
  | some o'=>rw [q] at e;cases e;exact ⟨hkeep _ _ (I.zin _ _ q),.inl (by simp)⟩
  | none=>
   rw [q] at e
   dsimp only at e
   split at e
   ·rename_i hany
    refine el_EA (List.any_eq_true.mp hany) fun p hp hpb=>?_
    obtain ⟨x,c⟩:=p
    obtain rfl:c=b:=by exact of_decide_eq_true hpb
    have hc:=hab x c hp
    exact ⟨e,.inr ⟨get_ge (Nat.le_of_lt hc),Nat.ne_of_gt hc⟩⟩
   ·trivial
 have go0:Go Fs Z s Z1 { s with heap:=h1,toks:=tk }:=⟨zEx,.of_keeps hkeep,(in_AA rfl rfl rfl)⟩
 have r1:=VRs.mono zEx.seq _ _ r
 have hst:∀ (i:Nat) x k v,scope.names[i]?=some (x,k)→(startLoc args scope.names.length)[i]?=some (some v)→∃ y,(x,y)∈(pn.map (·.1)).zip ys∧VR Z1 v y:=fun i x k v h1 h2=>by
  have hi:args[i]?=some v:=by
   unfold startLoc at h2
   rw [List.getElem?_append] at h2
   split at h2
   ·rw [List.getElem?_map] at h2
    cases q:args[i]? with
    | none=>rw [q] at h2;trivial
    | some u=>rw [q] at h2;simp only [Option.map_some,Option.some.injEq] at h2;exact congrArg _ h2
   ·rw [List.getElem?_replicate] at h2;split at h2<;>cases h2
  refine el_EA (r1.get hi) fun y e1 e2=>?_
  have hip:i < pn.length:=by rw [← hl];exact (List.getElem?_eq_some_iff.mp hi).1
  have hp:pn[i]?=some (x,k):=by rw [← K.ps,List.getElem?_take_of_lt hip];exact h1
  refine (in_EA y (List.mem_of_getElem? (i:=i) ?_) e2)
  rw [List.getElem?_zip_eq_some]
  exact ⟨by rw [List.getElem?_map,hp];rfl,e1⟩
 have LR:LocR scope.names env (startLoc args scope.names.length) (s.heap.objs.size::Fs) Z1 h1:=by
  refine ⟨(in_EA _ (by rw [eL];exact hns) (fun i x v h1 h2=>?_)),fun i x k v h2 h3 h4=>?_,.inl (by rw [eL];exact .head _),fun x c e=>?_⟩
  ·refine el_EA (hst i x _ v h1 h2) fun y e1 e2=>?_
   exact (in_EA y (bindL_get (hko i x _ h1) (by rw [hpm];exact pnd) e1) e2)
  ·refine el_EA (hst i x k v h2 h4) fun y e1 e2=>?_
   have hkc:k=.cell:=by
    have hx:x∈pn.map (·.1):=by rw [← hpm];exact List.mem_map_of_mem (f:=(·.1)) e1
    refine el_EA (List.mem_map.mp hx) fun rt0 hp e=>?_;obtain ⟨x',k'⟩:=rt0
    dsimp only at e
    subst e
    have e3:=lookup_mem K.nd (hpn _ hp)
    have e4:=lookup_get K.nd h2
    rw [e3] at e4
    cases e4
    rcases h3 with h3 | h3
    ·exact h3
    ·rcases K.pk _ hp with q | q<;>dsimp only at q<;>rw [h3] at q<;>trivial
   subst hkc
   obtain ⟨c,ec⟩:=Option.isSome_iff_exists.mp (V.ce x (List.mem_of_getElem? h2))
   refine el_EA (hcell x c ec) fun o ho hd=>?_
   rw [bindC_get (by rw [hko i x _ h2];trivial) (by rw [hpm];exact pnd) e1] at hd
   exact (in_EEEAAA c o y ec ((zC x c ec).trans ho) hd e2)
  ·refine el_EA (hcell x c e) fun o ho hd=>?_
   exact (in_EEA o _ ((zC x c e).trans ho) hd)
 refine wpAny_mono (Sb n _ _ Fs _ _ Z s _ Z1 H _ Q X D' V O I.base w go0 I1 LR) (fun fl' s' q=>?_) fun e s' q=>?_
 ·cases fl' with
  | next=>
   obtain ⟨m',Z',H',go1,I',-,q⟩:=q
   exact ⟨.none,Z',H',go1,I'.tail,by rfl,q⟩
  | ret y=>
   obtain ⟨v,Z',H',go1,I',vr,q⟩:=q
   exact ⟨v,Z',H',go1,I'.tail,vr,q⟩
  | _=>exact q.elim
 ·exact wpAny_mono (leave_exc (E:=fun e' s''=>False) D' (Around.frames_deeper fr1) eF q) (fun u0 u0 x=>x) fun u0 u0 x=>x.elim
end
end Mine
namespace Mine
section
variable {prog:Program} {w:World} {A:Around} {E:Value→Shared→Prop} {s:Shared} {K:Frag} {x C:Addr}
theorem exc_get {ox od:Obj} {name:Str} {v:Value} {expr:Bool} {Q:Value→Shared→Prop} (X:K.In s.heap) (I:InstAt s.heap x ox C (some od)) (hga:findIn K (.ref C) "__getattribute__"=some (some (.builtin "BaseException.__getattribute__"))) (hge:findIn K (.ref C) "__getattr__"=some none)
  {cd:ClassData} (hc:clsIn K C=some cd) (hm:cd.mro=[.ref C,.type "Exception",.type "BaseException",.type "object"]) (hf:findObj K C (some od) name=some (.value v)) (hh:handedIn v=true) (h:Q v { s with toks:=s.toks+1 }):wpAny (model prog w) A (getAttr (.ref x) name expr) Q E s:=by
 obtain ⟨hh0,g,d,t,os⟩:=s
 have L0:=I.type (M:=model prog w)
 have L1:=looks_findIn (M:=model prog w) X hga
 have L2:=looks_findIn (M:=model prog w) X hge
 have L3:=looks_find (M:=model prog w) X I hf
 have ga:Slot "Exception" "__getattribute__" "BaseException.__getattribute__":=PySem.F.attr_Exception.ga
 unfold getAttr getAttrBy
 refine wpAny_bind (wpAny_mkText (wpAny_holding (wpAny_bind (L0.at (wpAny_bind (L1.at ?_))))))
 show wpAny _ _ (if (onTheHeap (Value.ref C)&&Value.builtin "BaseException.__getattribute__"==Value.builtin "object.__getattribute__")=true then _ else _) _ _ _
 rw [if_neg (by rw [show (Value.builtin "BaseException.__getattribute__"==Value.builtin "object.__getattribute__")=false from by decide +kernel,Bool.and_false];exact Bool.noConfusion)]
 unfold getAttrByItsOwn hookBefore
 refine wpAny_bind ?_
 rw [if_pos (by rfl)]
 refine L2.at ?_
 refine wpAny_bind (wpAny_attempt (wpAny_holding ?_))
 unfold callGetattribute
 rw [if_neg (by cases expr<;>exact Bool.noConfusion)]
 unfold boundAndCalled
 rw [ga.bind]
 refine wpAny_bind (wpAny_pure ?_)
 have ne:cd.mro.isEmpty=false:=by rw [hm];rfl
 have sub:Looks (model prog w) hh0 (isInstance (.ref x) (.type "BaseException")) true:=I.type.andThen (looks_mroIn X (by unfold mroIn;rw [hc,Option.bind_some,if_neg (by rw [ne];exact Bool.noConfusion),hm];rfl))
 refine wpAny_call (codeAny_call_builtin ga.plain PySem.F.entry_bexc_ga (@check_slot (model prog w) _ _ ⟨hh0,g,d,t+1,os⟩ "BaseException.__getattribute__" "BaseException" "__getattribute__" (.ref x) [.str name t] [] _ (by decide +kernel) (by decide +kernel) sub (PySem.F.args_bexc_ga _ _) ?_))
 unfold Builtin.«object.__getattribute__»
 refine wpAny_bind (wpAny_pure (wpAny_bind (wpAny_pure (wpAny_bind (L0.at (wpAny_bind (L3.at ?_)))))))
 refine wpAny_pure ?_
 show wpAny _ _ (handedOut v) _ _ _
 rw [handedOut_of hh]
 exact wpAny_pure h
end
section
variable {g:G} {nm:List (Str × NameKind)}
theorem leave_try {A:Around} {L:Addr} {Fc:List Addr} {env:Env} {outer:List Env} {n:Nat} {Z0:Zone} {s0 s:Shared} {X:QX} {e:Value} {E:Value→Shared→Prop} (D:Gd A (L::Fc) n) (hfr:A.frames=some (env::outer)) (hfe:env.frame=some L) (h:ExS g L Fc Z0 s0 X e s) :
  wpAny (model g.prog g.w) A (noteFrame e env) (fun u0 s2=>wpAny (model g.prog g.w) A (setFlight e none) (fun u0 s'=>ExS g L Fc Z0 s0 X e s') E s2) E s:=by
 obtain ⟨sym,Z,H,go,I,⟨a,oe,vs,dx,es,nn,t,rfl,he,hc,hd,h5,za,hdx,zdx,hg,hT⟩,q⟩:=h
 refine el_EAA D.frames fun fl hfl hFs hfk=>?_
 rw [hfr] at hfl
 cases hfl
 have hFm:∀ b,b∈L::Fc↔b∈(env::outer).filterMap (·.frame):=fun b=>by rw [hFs]
 have hfun:∀ h:Heap,(∀ b∈L::Fc,∃ m,h.Ns b m)→h.FunFrames ⟨#[],{}⟩ (env::outer):=by
  intro h hn
  have:∀ l:List Env,(∀ c∈l,c.scope.kind≠.module∧∃ L,c.frame=some L)→(∀ b∈l.filterMap (·.frame),∃ m,h.Ns b m)→h.FunFrames ⟨#[],{}⟩ l:=by
   intro l
   induction l with
   | nil=>intro _ _;trivial
   | cons c r ih=>
    intro h1 h2
    obtain ⟨k1,L',k2⟩:=h1 c (.head _)
    refine el_EEEEAA (h2 L' (by rw [List.filterMap_cons,k2];exact .head _)) fun m o es ep e1 e2 u0=>?_
    refine (in_AA k1 (in_EEAAA L' o k2 ?_ e1 (fun vs q=>by rw [e2] at q;trivial)) (ih (fun c hc=>h1 c (.tail _ hc)) fun b hb=>h2 b (by rw [List.filterMap_cons,k2];exact .tail _ hb)))
    exact get_ge (Nat.zero_le _)
  exact this _ hfk fun b hb=>hn b ((hFm b).mpr hb)
 have nsF:∀ b∈L::Fc,∃ m,s.heap.Ns b m:=fun b hb=>(I.frs b hb).2.2
 have aF:a∉L::Fc:=fun hb=>by
  refine el_EEEEAA (nsF a hb) fun m o es' ep e1 e2 u0=>?_
  rw [he] at e1;cases e1;rw [hd] at e2;trivial
 have zF:∀ b o,Z b=some o→b∉L::Fc:=fun b o e hb=>by rw [(I.frs b hb).1] at e;trivial
 have fin:∀ h',(∀ b o,b∉L::Fc→(∀ vs,o.data≠.fields vs)→s.heap.get? b=some o→h'.get? b=some o)→(∀ b o,Z b=some o→h'.get? b=some o)→(∀ b∈L::Fc,∀ o,s.heap.get? b=some o→∃ sl,h'.get? b=some { o with slots:=sl }) →
   (∃ T oT ts oe',s.heap.get? T=none∧h'.get? a=some oe'∧oe'.cls=oe.cls∧oe'.dict=oe.dict∧oe'.data=.fields (vs.setIfInBounds 1 (.ref T))∧h'.get? T=some oT∧oT.data=.fields ts∧ts[3]?=some .none)→ExS g L Fc Z0 s0 X (.ref a) { s with heap:=h' }:=by
  rintro h' k1 k2 k3 ⟨T,oT,ts,oe',t1,t2,t3,t4,t5,t6,t7,t8⟩
  refine ⟨sym,Z,H,⟨go.ext,fun b hb m e=>ns_slots (k3 b (.tail _ hb)) (go.frk b hb m e),go.same.trans (in_AA rfl rfl rfl)⟩,I.left k1 k2 k3,⟨a,oe',_,dx,es,nn,t,rfl,t2,t3.trans hc,t5,by simp;exact h5,za,t4.trans hdx,zdx,hg,.inr (in_EEEAAA T oT ts ?_ (fun q=>?_) ((I.hNone t1).2.1) ⟨t6,t7,t8⟩)⟩,q⟩
  ·rw [Array.getElem?_setIfInBounds_self_of_lt (by exact ln 0x41f0b01120b0152110 rfl h5)]
  ·rw [q,he] at t1;trivial
 rcases hT with h1 | ⟨T,oT,ts,h1,hTa,zT,hTo,hTd,hT3⟩
 ·unfold noteFrame
  simp only [hfe]
  refine wpAny_bind (wpAny_field he hd h1 ?_)
  rw [if_neg (by exact Bool.noConfusion)]
  refine leave_entry hfr (hfun s.heap nsF) hfe he hd (ln 0x41f0b01120b0152110 rfl h5) fun h' ⟨T,oT,ts,oe',t1,t2,t3,t4,t5,t6,t7,t8,t9,t10⟩=>?_
  have t2':∀ b o,b∉L::Fc→b≠a→s.heap.get? b=some o→h'.get? b=some o:=fun b o hb=>t2 b o (fun q=>hb ((hFm b).mpr q))
  refine fin h' (fun b o hb hn e=>t2' b o hb (fun q=>hn vs (by rw [q,he] at e;cases e;exact hd)) e) (fun b o e=>t2' b o (zF b o e) (fun q=>by rw [q,za] at e;trivial) (I.zin _ _ e)) (fun b hb o e=>t3 b o (neF hb aF) e) (in_EEEEAAAA T oT ts oe' t1 t4 t5 t6 ⟨t7,t8,t9,t10⟩)
 ·unfold noteFrame
  simp only [hfe]
  refine wpAny_bind (wpAny_field he hd h1 ?_)
  rw [if_pos (show (Value.ref T != Value.none)=true from by rfl)]
  refine wpAny_bind (wpAny_field hTo hTd hT3 ?_)
  rw [if_neg (show ¬ ((Value.none==rawInt L)=true) from by exact Bool.noConfusion)]
  refine wpAny_bind (wpAny_setField hTo hTd (Array.getElem?_eq_some_iff.mp hT3).1 ?_)
  have oth:∀ b,b≠T→(s.heap.update T (Obj.mapFields (·.setIfInBounds 3 Value.none))).get? b=s.heap.get? b:=fun b hb=>Heap.get?_update_other _ _ (Ne.symm hb)
  have TF:∀ b∈L::Fc,b≠T:=fun b hb q=>by
   refine el_EEEEAA (nsF b hb) fun m o es' ep e1 e2 u0=>?_
   rw [q,hTo] at e1;cases e1;rw [hTd] at e2;trivial
  have nsF2:∀ b∈L::Fc,∃ m,(s.heap.update T (Obj.mapFields (·.setIfInBounds 3 Value.none))).Ns b m:=fun b hb=>by
   refine el_EEEEA (nsF b hb) fun m o es' ep e1 e2=>?_
   exact (in_EEEEA m o es' ep ((oth b (TF b hb)).trans e1) e2)
  have hTn:∀ b,s.heap.get? b=none→(s.heap.update T (Obj.mapFields (·.setIfInBounds 3 Value.none))).get? b=none:=fun b e=>(oth b (fun q=>by rw [q,hTo] at e;trivial)).trans e
  refine leave_entry (s:={ s with heap:=s.heap.update T (Obj.mapFields (·.setIfInBounds 3 Value.none)) }) hfr (hfun _ nsF2) hfe ((oth a (Ne.symm hTa)).trans he) hd (ln 0x41f0b01120b0152110 rfl h5) fun h' ⟨T',oT',ts',oe',t1,t2,t3,t4,t5,t6,t7,t8,t9,t10⟩=>?_
  have t2':∀ b o,b∉L::Fc→b≠a→b≠T→s.heap.get? b=some o→h'.get? b=some o:=fun b o hb h1 h2 e=>t2 b o (fun q=>hb ((hFm b).mpr q)) h1 ((oth b h2).trans e)
  refine fin h' (fun b o hb hn e=>t2' b o hb (fun q=>hn vs (by rw [q,he] at e;cases e;exact hd)) (fun q=>hn ts (by rw [q,hTo] at e;cases e;exact hTd)) e)
   (fun b o e=>t2' b o (zF b o e) (fun q=>by rw [q,za] at e;trivial) (fun q=>by rw [q,zT] at e;trivial) (I.zin _ _ e)) (fun b hb o e=>t3 b o (neF hb aF) ((oth b (TF b hb)).trans e)) (in_EEEEAAAA T' oT' ts' oe' ?_ t4 t5 t6 ⟨t7,t8,t9,t10⟩)
  cases q':s.heap.get? T' with
  | none=>rfl
  | some o=>
   by_cases q2:T'=T
   ·rw [q2] at t1
    have:=Heap.get?_update_self (Obj.mapFields (·.setIfInBounds 3 Value.none)) hTo (Obj.isFreed_of_fields (Obj.data_mapFields hTd _))
    change (s.heap.update T (Obj.mapFields (·.setIfInBounds 3 Value.none))).get? T=none at t1
    rw [t1] at this;trivial
   ·have:=(oth T' q2).trans q'
    change (s.heap.update T (Obj.mapFields (·.setIfInBounds 3 Value.none))).get? T'=none at t1
    rw [t1] at this;trivial
structure ExcG (g:G):Prop where
 ga:findIn g.K (.ref cLisp) "__getattribute__"=some (some (.builtin "BaseException.__getattribute__"))
 ge:findIn g.K (.ref cLisp) "__getattr__"=some none
 hd:hasDictIn g.K cLisp=true
end
end Mine
namespace Mine
noncomputable def SndU (g:G) (nm:List (Str × NameKind)) (run:Env→Sem Flow) (W:Nat→Loc→QN→QV→QX→Hp→Prop):Prop:=
 ∀ (n:Nat) (A:Around) (L:Addr) (Fc:List Addr) (env:Env) (m:Loc) (Z0:Zone) (s0 s:Shared) (Z:Zone) (H:Hp) (N:QN) (R:QV) (X:QX),Gd A (L::Fc) n→EnvOk env nm→FnOk env L Fc Z0→(∀ b o,g.B.get? b=some o→Z0 b=some o) →
  (∃ outer,A.frames=some (env::outer))→env.frame=some L →
  W n m N R X H→Go Fc Z0 s0 Z s→Inv g.prog g.w g.B (L::Fc) Z H s.heap→LocR nm env m (L::Fc) Z s.heap→wpAny (model g.prog g.w) A (run env) (OkS g nm env L Fc Z0 s0 N R) (ExS g L Fc Z0 s0 X) s
section
variable {g:G} {nm:List (Str × NameKind)}
theorem callC_defU (G:GlobOk g) {f:Addr} {params:Arguments} {body:List Stmt} {scope:Scope} {pn:List Str} {dv:List V} (K:DefK g f params body scope pn dv) {W:Nat→Loc→QN→QV→QX→Hp→Prop} (Sb:SndU g scope.names (execs body) W) {n:Nat} {args:List V} {Q:QV} {X:QX} {H:Hp}
  (hl:args.length+dv.length=pn.length) (w:W n (startLoc (args++dv) scope.names.length) (fun u0 H=>Q .none H) Q X H):CallC g (n+1) f args Q X H:=by
 refine ⟨fun A Fs s Z ys D I r=>?_⟩
 obtain ⟨oc,od,osl,name,qual,dV,kV,doc,pm,an,cdv,ct,hlk,hcd,hb⟩:=K.lk
 have kB:∀ b o,g.B.get? b=some o→s.heap.get? b=some o:=fun b o e=>I.zin _ _ (I.base _ _ e)
 have K1:g.K.In s.heap:=G.kin.keeps kB
 have hlen:=r.length
 refine el_EA (hb s ys K1 (ln 0x7e10617c1f2b31921112b31921012b1101140 rfl hl hlen)) fun ds hds hbind=>?_
 have hdl:=(hds Z).length
 have hpl:pn.length=(ys++ds).length:=by rw [List.length_append];exact ln 0x8617c17df841f2b91131412b41901212b31212b1101150 rfl hl hlen hdl
 have hpm:(pn.zip (ys++ds)).map (·.1)=pn:=by rw [List.map_fst_zip];exact ln 0x841f1b11012b1101120 rfl hpl
 have pnd:pn.Nodup:=by
  have h1:pn=(scope.names.take pn.length).map (·.1):=by rw [K.ps,List.map_map];simp [Function.comp_def]
  rw [h1,List.map_take]
  exact (List.take_sublist _ _).nodup K.nd
 have hloc:∀ x∈pn.zip (ys++ds),scope.names.lookup x.1=some .local:=fun x hx=>by
  have h1:x.1∈pn:=by rw [← hpm];exact List.mem_map_of_mem hx
  refine lookup_mem K.nd (List.mem_of_mem_take (i:=pn.length) ?_)
  rw [K.ps]
  exact List.mem_map.mpr (in_EA x.1 h1 rfl)
 refine codeAny_call_def (fd:=fnOf name qual params body scope dV kV doc pm an cdv ct) (body:=body) (by have:=D.depth;exact ln 0x41f0b21010b21900000014390479121101130 rfl this) (K1 _ _ hlk) rfl (G.lim.keeps kB) (codeRec_of K1 hcd) rfl hbind K.nc hloc (fun h0 hns hk=>?_) K.co K.ge K.kd
 have hLn:=size_none s.heap
 have V:EnvOk (callEnv (fnOf name qual params body scope dV kV doc pm an cdv ct) s.heap.objs.size f) scope.names:=⟨rfl,K.kd,rfl,rfl,K.nd,fun x hx=>absurd rfl (K.nc _ hx),K.db⟩
 have nL:s.heap.objs.size∉Fs:=(I.hNone hLn).2.2
 have O:FnOk (callEnv (fnOf name qual params body scope dV kV doc pm an cdv ct) s.heap.objs.size f) s.heap.objs.size Fs Z:=⟨rfl,nL,fun x c e=>(by trivial),fun x y c e=>(by trivial)⟩
 refine el_EAA D.frames fun fl fr1 fr2 fr3=>?_
 have D':Gd (A.deeper (callEnv (fnOf name qual params body scope dV kV doc pm an cdv ct) s.heap.objs.size f)) (s.heap.objs.size::Fs) n:=by
  refine ⟨(in_EAA _ (Around.frames_deeper fr1) ?_ ?_),D.handled,?_,?_⟩
  ·rw [List.filterMap_cons];rw [fr2];rfl
  ·intro env he
   rcases List.mem_cons.mp he with rfl | he
   ·exact ⟨by show scope.kind≠_;rw [K.kd];decide,_,rfl⟩
   ·exact fr3 env he
  ·have:=D.depth;show A.depth+1+4*n+20 < _;exact ln 0x41f0b219000000143904711912010b21900000014390479121101130 rfl this
  ·have:=D.units;show A.units+3+20*n+100 < _;exact ln 0x41f0b219000000643914711932010b21900000064391479121101130 rfl this
 have I1:=I.enter hk hLn hns
 have go0:Go Fs Z s Z { s with heap:=h0,toks:=s.toks+(pn.zip (ys++ds)).length }:=⟨.refl _,.of_keeps hk,(in_AA rfl rfl rfl)⟩
 have vall:VRs Z (args++dv) (ys++ds):=r.append (hds Z)
 have LR:LocR scope.names (callEnv (fnOf name qual params body scope dV kV doc pm an cdv ct) s.heap.objs.size f) (startLoc (args++dv) scope.names.length) (s.heap.objs.size::Fs) Z h0:=by
  refine ⟨(in_EA _ hns (fun i x v h1 h2=>?_)),fun i x k v h1 h2 h3=>?_,.inl (.head _),fun x c e=>(by trivial)⟩
  ·have hi:(args++dv)[i]?=some v:=by
    unfold startLoc at h2
    rw [List.getElem?_append] at h2
    split at h2
    ·rw [List.getElem?_map] at h2
     cases q:(args++dv)[i]? with
     | none=>rw [q] at h2;trivial
     | some u=>rw [q] at h2;simp only [Option.map_some,Option.some.injEq] at h2;rw [h2]
    ·rw [List.getElem?_replicate] at h2;split at h2<;>cases h2
   refine el_EA (vall.get hi) fun y e1 e2=>?_
   refine (in_EA y (lookup_rev (by rw [hpm];exact pnd) (binds_look pnd (i:=i) ?_ e1)) e2)
   have hip:i < pn.length:=by
    rw [hpl];exact (List.getElem?_eq_some_iff.mp e1).1
   have:(scope.names.take pn.length)[i]?=some (x,NameKind.local):=by rw [List.getElem?_take_of_lt hip];exact h1
   rw [K.ps,List.getElem?_map] at this
   cases q:pn[i]? with
   | none=>rw [q] at this;trivial
   | some u=>rw [q] at this;simp only [Option.map_some,Option.some.injEq,Prod.mk.injEq] at this;rw [this.1]
  ·-- no cells,no free names bound
   unfold startLoc at h3
   have hi:i < pn.length:=by
    rw [List.getElem?_append] at h3
    split at h3
    ·rename_i q;rw [List.length_map,List.length_append] at q;exact ln 0x1841f0b31012b31921110b9211101140 rfl hl q
    ·rw [List.getElem?_replicate] at h3;split at h3<;>cases h3
   have:(scope.names.take pn.length)[i]?=some (x,k):=by rw [List.getElem?_take_of_lt hi];exact h1
   rw [K.ps,List.getElem?_map] at this
   cases q:pn[i]? with
   | none=>rw [q] at this;trivial
   | some u=>rw [q] at this;simp only [Option.map_some,Option.some.injEq,Prod.mk.injEq] at this;rw [← this.2] at h2;rcases h2 with h2 | h2<;>trivial
 refine wpAny_mono (Sb n _ _ Fs _ _ Z s _ Z H _ Q X D' V O I.base ⟨_,Around.frames_deeper fr1⟩ rfl w go0 I1 LR) (fun fl' s' q=>?_) fun e s' q=>?_
 ·cases fl' with
  | next=>
   obtain ⟨m',Z',H',go1,I',-,q⟩:=q
   exact ⟨.none,Z',H',go1,I'.tail,by rfl,q⟩
  | ret y=>
   obtain ⟨v,Z',H',go1,I',vr,q⟩:=q
   exact ⟨v,Z',H',go1,I'.tail,vr,q⟩
  | _=>exact q.elim
 ·exact wpAny_mono (leave_exc (E:=fun e' s''=>False) D' (Around.frames_deeper fr1) rfl q) (fun u0 u0 x=>x) fun u0 u0 x=>x.elim
theorem exc_setFlight {M:Model} {A:Around} {E:Value→Shared→Prop} {s:Shared} {e T:Addr} {oe oT:Obj} {vs ts:Array Value} {Q:Unit→Shared→Prop} (he:s.heap.get? e=some oe) (hd:oe.data=.fields vs) (h1:vs[1]?=some (.ref T)) (hT:s.heap.get? T=some oT) (hdT:oT.data=.fields ts) (h3:3 < ts.size)
  (h:Q () { s with heap:=s.heap.update T (Obj.mapFields (·.setIfInBounds 3 Value.none)) }):wpAny M A (setFlight (.ref e) none) Q E s:=by
 unfold setFlight
 refine wpAny_bind (wpAny_field he hd h1 ?_)
 rw [if_pos (show (Value.ref T != Value.none)=true from by rfl)]
 exact wpAny_setField hT hdT h3 h
theorem Inv.nsChange {prog:Program} {w:World} {B:Heap} {Fs:List Addr} {Z:Zone} {H:Hp} {h h':Heap} {L:Addr} {m:Str→Option Value} (I:Inv prog w B (L::Fs) Z H h) (hn:h'.Ns L m) (sb:Heap.SameBut L h h'):Inv prog w B (L::Fs) Z H h':=by
 obtain ⟨bb,z,f,δ,o1,o2,o3⟩:=I
 have zL:∀ b o,Z b=some o→b≠L:=fun b o e q=>by rw [q,(f L (.head _)).1] at e;trivial
 have hd:∀ b o,b≠L→h.get? b=some o→h'.get? b=some o:=fun b o q e=>(sb.2 b q).trans e
 refine ⟨bb,fun b o e=>hd b o (zL b o e) (z b o e),fun b hb=>⟨(f b hb).1,(f b hb).2.1,?_⟩,δ,fun a o e=>⟨(o1 a o e).1.mono (fun u0 u0 u0 u0 e u0=>e) (fun x=>hd a x fun q=>?_) (fun C' fs e' x=>hd _ x fun q=>?_),(o1 a o e).2⟩,o2,o3⟩
 ·by_cases q:b=L
  ·subst q;exact ⟨_,hn⟩
  ·obtain ⟨mm,e⟩:=(f b hb).2.2;exact ⟨mm,e.sameBut sb q⟩
 ·have:=(f L (.head _)).2.1;rw [q] at e;rw [this] at e;trivial
 ·exact (o3 a C' fs (e'▸e)).2.2 (by rw [q];exact .head _)
theorem sndU_try (G:GlobOk g) (LK:ExcK g) (LG:ExcG g) {j i:Nat} {pb:List Stmt} {b:List S} {nme cs:Str} {p1 p2 p3 p4 p5 p6 p7 p8:Pos} {k k2:Nat} (hm:(Str.ofString "LispSignal",NameKind.globalImplicit)∈nm) (hj:GT[j]?=some (Str.ofString "LispSignal",.fn cLisp)) (hi:nm[i]?=some (nme,.local)) (Sb:SndSs g nm pb b) :
  SndU g nm (execs [.Try pb [.ExceptHandler (some (.Name "LispSignal" p1)) (some nme) [.Return (some (.Tuple [.Constant (.str cs) k p2,.Attribute (.Name nme p3) "symbol" p4] k2 p5)) p6] p7] [] [] p8])
   (fun n m u0 R u0 H=>wSs g n b m (fun u0 u0=>False) R (fun sym H'=>R (.tup [.str cs,.str sym]) H') H):=by
 intro n A L Fc env m Z0 s0 s Z H N R X D V O B0 hfr hfe w go I LR
 obtain ⟨outer,hfr⟩:=hfr
 refine wpAny_execs_cons (wpAny_Try_except (wpAny_mono (Sb n A L Fc env m Z0 s0 s Z H _ R _ D V O B0 w go I LR) (fun f s1 q=>?_) fun e s1 q=>?_))
 ·cases f with
  | next=>obtain ⟨_,_,_,_,_,_,q⟩:=q;exact q.elim
  | ret y=>exact q
  | _=>exact q.elim
 ·refine wpAny_mono (leave_try D hfr hfe q) (fun u0 s2 h2=>wpAny_mono h2 (fun u0 s3 h3=>?_) fun u0 u0 x=>x) fun u0 u0 x=>x
  clear h2 q s1 s2
  obtain ⟨sym,Z1,H1,go1,I1,⟨a,oe,vs,dx,es,nn,t,rfl,he,hc,hd,h5,za,hdx,zdx,hg,hT⟩,q⟩:=h3
  obtain ⟨nmC,qC,NC,bs,sn,sub,ab,col,dd,k0,k1,k2',k3,k5,newId,initId,oN,esN,hC,FB,-⟩:=LK.cls
  have K1:g.K.In s3.heap:=G.kin.keeps fun b o e=>I1.zin _ _ (I1.base _ _ e)
  refine wpAny_handleBy_cons (codeAny_handlers_test (glob_any G hm hj V I1 fun yf vrf=>?_)) (by intro q;trivial)
  have hyf:=vrf Z1
  simp only [VR] at hyf
  subst hyf
  obtain ⟨hp3,gg3,d3,t3,os3⟩:=s3
  refine wpAny_excMatches_sub_self (K1 _ _ hC) he hc FB.hasBase ?_
  have hko:=kind_of V hi
  have hdbg:=V.db _ (List.mem_of_getElem? hi)
  have key:∀ h4:Heap,h4.get? a=some oe→Inv g.prog g.w g.B (L::Fc) Z1 H1 h4→FrK Fc hp3 h4→codeAny (model g.prog g.w) (A.mark (some (.ref a))) (.handlers (.ref a) [] env) (fun u0 u0=>True) ⟨h4,gg3,d3,t3,os3⟩∨True:=fun u0 u0 u0 u0=>.inr trivial
  clear key
  refine codeAny_handlers_suite_as ?_
  have fin:∀ h4:Heap,h4.get? a=some oe→Inv g.prog g.w g.B (L::Fc) Z1 H1 h4→FrK Fc hp3 h4→∀ (Q4:Flow→Shared→Prop) (E4 E5:Value→Shared→Prop),
    (∀ y s5,wpAny (model g.prog g.w) A (do bindName env nme .none;unbindBehindTheSuite env nme p7) (fun u0 s6=>OkS g nm env L Fc Z0 s0 N R (.ret y) s6) (ExS g L Fc Z0 s0 X) s5→Q4 (.ret y) s5) →
    wpAny (model g.prog g.w) (A.mark (some (.ref a))) (storeName env nme (.ref a)) (fun u0 s₂=>wpAny (model g.prog g.w) (A.mark (some (.ref a))) (execs [.Return (some (.Tuple [.Constant (.str cs) k p2,.Attribute (.Name nme p3) "symbol" p4] k2 p5)) p6] env) Q4 E4 s₂) E5 ⟨h4,gg3,d3,t3,os3⟩:=by
   intro h4 he4 I4 fk4 Q4 E4 E5 hQ
   refine el_AAE (I4.frs L (.head _)) fun u0 u0 m4 hm4=>?_
   refine wpAny_storeName_local hko (by rw [O.loc];exact hm4) (fun h5 hn5 sb5=>?_) (by rw [V.kd];rfl)
   have sb5':Heap.SameBut L h4 h5:=by have:=sb5;rw [O.loc] at this;exact this
   have hn5':h5.Ns L (fun y=>if y=nme then some (.ref a) else m4 y):=by have:=hn5;rw [O.loc] at this;exact this
   have I5:=I4.nsChange hn5' sb5'
   have aL:a≠L:=fun q=>by
    refine el_EEEAA hm4 fun o es' ep e1 e2 u0=>?_
    rw [← q,he4] at e1;cases e1;rw [hd] at e2;trivial
   have he5:h5.get? a=some oe:=(sb5'.2 a aL).trans he4
   have K5:g.K.In h5:=G.kin.keeps fun b o e=>I5.zin _ _ (I5.base _ _ e)
   refine wpAny_execs_cons (wpAny_Return_some (Tuple_ ?_))
   show wpAny _ _ (spliced [(false,eval (.Constant (.str cs) k p2) env),(false,eval (.Attribute (.Name nme p3) "symbol" p4) env)]) _ _ _
   refine spliced_cons (Constant_str ?_)
   refine spliced_cons (Attribute_any_ (wpAny_Name (wpAny_loadName_local (v:=.ref a) V.kd hko hn5 (by simp) ?_) hdbg.1) rfl)
   have IA:InstAt h5 a oe cLisp (some (dictOf es nn)):=⟨he5,hc,by unfold notCls;rw [hd],by rw [hdx];exact I5.zin _ _ zdx⟩
   refine el_EA (show ∃ cd,clsIn g.K cLisp=some cd∧cd.mro=[.ref cLisp,.type "Exception",.type "BaseException",.type "object"] from (in_EA _ (clsIn_of hC) rfl)) fun cd hcl hmr=>?_
   have hfo:findObj g.K cLisp (some (dictOf es nn)) "symbol"=some (.value (.str sym t)):=findObj_own LG.hd LK.sym rfl (by rw [lookIn_dict];exact hg)
   have hhd:handedIn (Value.str sym t)=true:=handed_of (Z:=Z1) (v:=.str sym) (by simp only [VR];exact ⟨_,rfl⟩)
   refine exc_get K5 IA LG.ga LG.ge hcl hmr hfo hhd ?_
   refine spliced_nil ?_
   refine wpAny_newObj_type ?_ (by show (2:Nat)≤sizeLine;rw [sizeLine_eq];exact by exact Nat.le_of_ble_eq_true rfl)
   refine hQ _ _ ?_
   have nT:=size_none h5
   have hT5:(h5.push { cls:=.type "tuple",data:=.seq [Value.str cs (t3+1),.str sym t].toArray }).get? h5.objs.size=some (tupOf #[Value.str cs (t3+1),.str sym t] 0):=Heap.get?_push_size _ rfl
   have I6:=I5.freezeNew (keeps_push h5 { cls:=.type "tuple",data:=.seq [Value.str cs (t3+1),.str sym t].toArray }) nT hT5
   have zT:=(I5.hNone nT).2.1
   refine el_AAE (I6.frs L (.head _)) fun u0 u0 m6 hm6=>?_
   refine wpAny_nameGoes hko (by rw [O.loc];exact hm6) (by rw [V.kd];rfl) fun h7 m7 hn7 sb7=>?_
   have sb7':Heap.SameBut L (h5.push { cls:=.type "tuple",data:=.seq [Value.str cs (t3+1),.str sym t].toArray }) h7:=by have:=sb7;rw [O.loc] at this;exact this
   have I7:=I6.nsChange (by have:=hn7;rw [O.loc] at this;exact this) sb7'
   refine ⟨.tup [.str cs,.str sym],_,H1,⟨go1.ext.trans (Ext.put zT),fun b hb mm e=>?_,go1.same.trans (in_AA rfl rfl rfl)⟩,I7,?_,q⟩
   ·have hbL:b≠L:=fun q=>O.nL (q▸hb)
    exact (((fk4 b hb mm (go1.frk b hb mm e)).sameBut sb5' hbL).keeps (keeps_push _ _)).sameBut sb7' hbL
   ·simp only [VR]
    exact (in_EEEAAA _ 0 _ rfl put_at (by show (2:Nat)≤_;exact by exact Nat.le_of_ble_eq_true rfl) (.cons ⟨_,rfl⟩ (.one ⟨_,rfl⟩)))
  rcases hT with h1 | ⟨T,oT,ts,h1,hTa,zT,hTo,hTd,hT3⟩
  ·unfold setFlight
   refine wpAny_bind (wpAny_field he hd h1 ?_)
   rw [if_neg (by exact Bool.noConfusion)]
   exact wpAny_pure (fin hp3 he I1 (.refl _ _) _ _ _ fun y s5 h5=>h5)
  ·have oth:∀ b,b≠T→(hp3.update T (Obj.mapFields (·.setIfInBounds 3 Value.none))).get? b=hp3.get? b:=fun b hb=>Heap.get?_update_other _ _ (Ne.symm hb)
   have TF:∀ b∈L::Fc,b≠T:=fun b hb q=>by
    refine el_AAE (I1.frs b hb) fun u0 u0 m' rt3=>?_;obtain ⟨o,es',ep,e1,e2,-⟩:=rt3
    rw [q,hTo] at e1;cases e1;rw [hTd] at e2;trivial
   refine exc_setFlight he hd h1 hTo hTd (Array.getElem?_eq_some_iff.mp hT3).1 (fin _ ((oth a (Ne.symm hTa)).trans he) ?_ (fun b hb mm e=>?_) _ _ _ fun y s5 h5=>h5)
   ·refine I1.left (fun b o hb hn e=>(oth b (fun q=>?_)).trans e) (fun b o e=>(oth b (fun q=>by rw [q,zT] at e;trivial)).trans (I1.zin _ _ e)) (fun b hb o e=>⟨o.slots,(oth b (TF b hb)).trans e⟩)
    rw [q,hTo] at e;cases e;exact hn ts hTd
   ·refine el_EEEA e fun o es' ep e1 r=>?_
    exact (in_EEEA o es' ep ((oth b (TF b (.tail _ hb))).trans e1) r)
end
end Mine
namespace Mine
noncomputable def isCell:NameKind→Bool
 | .cell=>true
 | _=>false
noncomputable def isFree:NameKind→Bool
 | .free=>true
 | _=>false
noncomputable def isLocal:NameKind→Bool
 | .local=>true
 | _=>false
noncomputable def ndup:List Str→Bool
 | []=>true
 | x::r=>!(r.any fun y=>x==y)&&ndup r
theorem ndup_nodup:∀ {l:List Str},ndup l=true→l.Nodup
 | []=>@fun u0=>List.nodup_nil
 | x::r=>@fun h=>by
  simp only [ndup,Bool.and_eq_true,Bool.not_eq_true'] at h
  refine List.nodup_cons.mpr ⟨fun hx=>?_,ndup_nodup h.2⟩
  have:(r.any fun y=>x==y)=true:=List.any_eq_true.mpr ⟨x,hx,by exact decide_eq_true rfl⟩
  rw [this] at h;exact absurd h.1 (by exact Bool.noConfusion)
noncomputable def compChk (nm sn:List (Str × NameKind)) (mp:List (Option Nat)):Bool:=
 mpOk nm sn mp (freeCell sn)&&(sn.all fun p=>!isFree p.2||nm.any fun q=>(q.1==p.1)&&isCell q.2)&&(sn.all fun p=>!isCell p.2)&&ndup (sn.map (·.1))&&(sn.all fun p=>!(p.1==("__debug__":Str))&&!(p.1==("__classdict__":Str)))
theorem freeCell_names (sn:List (Str × NameKind)):(freeCell sn).map (·.1)=sn.map (·.1):=by
 unfold freeCell
 rw [List.map_map]
 refine List.map_congr_left fun p u0=>?_
 obtain ⟨x,k⟩:=p
 cases k<;>rfl
theorem compK_of {nm:List (Str × NameKind)} {scope:Scope} {mp:List (Option Nat)} (h:compChk nm scope.names mp=true) (hk:scope.kind=.function):CompK nm scope mp:=by
 simp only [compChk,Bool.and_eq_true,List.all_eq_true] at h
 obtain ⟨⟨⟨⟨h1,h2⟩,h3⟩,h4⟩,h5⟩:=h
 have nd:=ndup_nodup h4
 refine ⟨h1,fun x hx=>?_,fun p hp q=>?_,hk,by rw [freeCell_names];exact nd,fun p hp=>?_,fun x hx hl=>?_⟩
 ·have:=h2 _ hx
  simp only [isFree,Bool.not_true,Bool.false_or,List.any_eq_true,Bool.and_eq_true,beq_iff_eq] at this
  obtain ⟨⟨y,k⟩,hq,e1,e2⟩:=this
  dsimp only at e1 e2
  subst e1
  cases k<;>first | exact hq | trivial
 ·have:=h3 _ hp
  rw [q] at this
  exact of_decide_eq_true this
 ·have hm:p.1∈scope.names.map (·.1):=by rw [← freeCell_names];exact List.mem_map_of_mem hp
  obtain ⟨q,hq,e⟩:=List.mem_map.mp hm
  have:=h5 _ hq
  rw [← e]
  simpa using this
 ·obtain ⟨y,k⟩:=x
  dsimp only at hl
  subst hl
  exact lookup_mem nd hx
theorem swappedAA {env:Env} {nm:List (Str × NameKind)} (V:EnvOk env nm) {o1 o2 e1 e2:PySem.Expr} {x1 x2:Str} {p1 p2 tp vp:Pos} {t1 t2:Nat} (hs:∀ e∈[e1,e2],∀ t p,e≠.Starred t p) :
  swappedStores [.Tuple [.Attribute o1 x1 p1,.Attribute o2 x2 p2] t1 tp] (.Tuple [e1,e2] t2 vp) env=pure none:=by
 have kb:env.blockKind=.function:=by unfold Env.blockKind;rw [V.kd];rfl
 refine (if_neg (by rw [kb];exact Bool.false_ne_true)).trans ((if_neg (noStar hs fun e he=>?_)).trans ((if_pos ?_).trans rfl))
 ·cases e<;>first | rfl | exact absurd rfl (he _ _)
 ·rfl
theorem sndS_asgV {g:G} {nm:List (Str × NameKind)} {x:Str} {k:NameKind} {i:Nat} {e:E} {pe:PySem.Expr} {p pos:Pos} (hi:nm[i]?=some (x,k)) (hk:k=.local∨k=.cell) (S:Snd g nm pe e) (hs:∀ env,EnvOk env nm→swapsWith pe (some (.Name x p)) pos.line env=pure false) :
  SndS g nm (.Assign [.Name x p] pe pos) (.asg i e):=by
 intro n A L Fc env m Z0 s0 s Z H N R X D V O B0 w go I LR
 refine wpAny_Assign_Name (S.stm D V w I LR go fun y v s1 Z1 H1 go1 I1 L1 u0 vr q=>?_) (hs env V)
 exact store_any hi hk V O B0 I1 L1 go1 vr fun s2 Z2 go2 I2 L2 u0=>⟨_,Z2,H1,go2,I2,L2,q⟩
theorem swaps_cell {nm:List (Str × NameKind)} {scope:Scope} {pelt:PySem.Expr} {gens:List Comprehension} {pos py:Pos} {line:Nat} {i:Nat} {y:Str} {env:Env} (V:EnvOk env nm) (hi:nm[i]?=some (y,.cell)) :
  swapsWith (.ListComp pelt gens scope pos) (some (.Name y py)) line env=pure false:=by
 have k:=kind_of V hi
 unfold swapsWith
 simp only [bind_pure_comp]
 rw [k,show ((some NameKind.cell==some NameKind.local)=false) from rfl,Bool.and_false,Bool.false_and,Bool.false_and]
end Mine
namespace Mine
noncomputable def parts:PySem.Expr→List PySem.Expr × Nat
 | .BoolOp _ vs _=>(vs,0)
 | .BinOp a _ b _=>([a,b],0)
 | .UnaryOp _ a _=>([a],0)
 | .IfExp a b c _=>([a,b,c],0)
 | .Compare a _ bs _=>(a::bs,0)
 | .Call f as _ _=>(f::as,0)
 | .Attribute a _ _=>([a],0)
 | .Subscript a b _=>([a,b],0)
 | .List as _=>(as,0)
 | .Tuple as k _=>(as,k)
 | .Slice l u s _=>(l.toList++(u.toList++s.toList),0)
 | .Constant _ k _=>([],k)
 | _=>([],0)
noncomputable def kids (e:PySem.Expr):List PySem.Expr:=(parts e).1
noncomputable def num (e:PySem.Expr):Nat:=(parts e).2
noncomputable def nul:PySem.Expr:=.Constant .none 0 default
noncomputable def kid (i:Nat) (e:PySem.Expr):PySem.Expr:=gAt nul (kids e) i
noncomputable def d0:Str × NameKind:=(Str.ofString "",.globalImplicit)
noncomputable def nmx (nm:List (Str × NameKind)) (i:Nat):Str:=(gAt d0 nm i).1
noncomputable def kindAt (nm:List (Str × NameKind)) (i:Nat):NameKind:=(gAt d0 nm i).2
noncomputable def dG:Str × V:=(Str.ofString "",.none)
noncomputable def gnm (j:Nat):Str:=bif Nat.ble 900 j then (gAt (Str.ofString "",.none) BT (j - 900)).1 else (gAt dG GT j).1
noncomputable def Blt.ix:Blt→Nat
 | .len=>0
 | .min=>1
 | .max=>2
 | .abs=>3
noncomputable def mp (e:PySem.Expr):Pos:=⟨(kid 0 e).pos.line,(kid 0 e).pos.col,e.pos.line,(kid 0 e).pos.endCol⟩
section
variable (nm:List (Str × NameKind))
noncomputable def dE (x:E):PySem.Expr→PySem.Expr:=E.rec (motive_1:=fun u0=>PySem.Expr→PySem.Expr) (motive_2:=fun u0=>List PySem.Expr→List PySem.Expr)
 (fun i e=>.Name (nmx nm i) e.pos)
 (fun i e=>.Name (nmx nm i) e.pos)
 (fun j e=>.Name (gnm j) e.pos)
 (fun i e=>.Constant (.int i) (num e) e.pos)
 (fun x e=>.Constant (.str x) (num e) e.pos)
 (fun b e=>.Constant (.bool b) (num e) e.pos)
 (fun e=>.Constant .none (num e) e.pos)
 (fun u0 k o e=>.Attribute (o (kid 0 e)) (gAt "" AT k) e.pos)
 (fun op u0 u0 a b e=>.BinOp (a (kid 0 e)) op.toOp (b (kid 1 e)) e.pos)
 (fun i e=>.UnaryOp .USub (.Constant (.int i) (num (kid 0 e)) (kid 0 e).pos) e.pos)
 (fun op u0 u0 a b e=>.Compare (a (kid 0 e)) [op] [b (kid 1 e)] e.pos)
 (fun o1 o2 u0 u0 u0 a b c e=>.Compare (a (kid 0 e)) [o1,o2] [b (kid 1 e),c (kid 2 e)] e.pos)
 (fun u0 u0 a b e=>.BoolOp .And [a (kid 0 e),b (kid 1 e)] e.pos)
 (fun u0 u0 a b e=>.BoolOp .Or [a (kid 0 e),b (kid 1 e)] e.pos)
 (fun u0 a e=>.UnaryOp .Not (a (kid 0 e)) e.pos)
 (fun u0 u0 u0 c a b e=>.IfExp (c (kid 0 e)) (a (kid 1 e)) (b (kid 2 e)) e.pos)
 (fun j u0 as e=>.Call (.Name (gnm j) (kid 0 e).pos) (as (kids e).tail) [] e.pos)
 (fun f u0 as e=>.Call (.Name (gnm (900+f.ix)) (kid 0 e).pos) (as (kids e).tail) [] e.pos)
 (fun u0 j u0 o as e=>.Call (.Attribute (o (kid 0 (kid 0 e))) (gAt "" MN j) (mp e)) (as (kids e).tail) [] e.pos)
 (fun u0 u0 o x e=>.Call (.Attribute (o (kid 0 (kid 0 e))) (Str.ofString "append") (mp e)) [x (kid 1 e)] [] e.pos)
 (fun u0 u0 o x e=>.Call (.Attribute (o (kid 0 (kid 0 e))) (Str.ofString "extend") (mp e)) [x (kid 1 e)] [] e.pos)
 (fun u0 o e=>.Call (.Attribute (o (kid 0 (kid 0 e))) (Str.ofString "pop") (mp e)) [] [] e.pos)
 (fun u0 o e=>.Call (.Attribute (o (kid 0 (kid 0 e))) (Str.ofString "pop") (mp e)) [.Constant (.int 0) (num (kid 1 e)) (kid 1 e).pos] [] e.pos)
 (fun u0 x e=>.Call (.Name (gnm 905) (kid 0 e).pos) [x (kid 1 e)] [] e.pos)
 (fun u0 u0 u0=>nul)
 (fun u0 x e=>.Call (.Name (gnm 904) (kid 0 e).pos) [x (kid 1 e)] [] e.pos)
 (fun u0 u0 u0 u0 u0 u0=>nul)
 (fun u0 es e=>.Tuple (es (kids e)) (num e) e.pos)
 (fun u0 es e=>.List (es (kids e)) e.pos)
 (fun e=>.Dict [] [] e.pos)
 (fun u0 u0 a i e=>.Subscript (a (kid 0 e)) (i (kid 1 e)) e.pos)
 (fun u0 u0 u0 a l u e=>.Subscript (a (kid 0 e)) (.Slice (some (l (kid 0 (kid 1 e)))) (some (u (kid 1 (kid 1 e)))) none (kid 1 e).pos) e.pos)
 (fun u0 u0 a u e=>.Subscript (a (kid 0 e)) (.Slice none (some (u (kid 0 (kid 1 e)))) none (kid 1 e).pos) e.pos)
 (fun u0 u0 a l e=>.Subscript (a (kid 0 e)) (.Slice (some (l (kid 0 (kid 1 e)))) none none (kid 1 e).pos) e.pos)
 (fun u0 a e=>.Subscript (a (kid 0 e)) (.Slice none none (some (.UnaryOp .USub (.Constant (.int 1) (num (kid 0 (kid 0 (kid 1 e)))) (kid 0 (kid 0 (kid 1 e))).pos) (kid 0 (kid 1 e)).pos)) (kid 1 e).pos) e.pos)
 (fun u0 u0 u0 u0 u0 u0 u0 u0=>nul)
 (fun u0 u0 u0 u0 u0 u0 u0 u0=>nul)
 (fun u0=>[])
 (fun u0 u0 x r l=>x (gAt nul l 0)::r l.tail)
 x
variable (hs:List (Nat × Nat))
noncomputable def hasG (j:Nat):Bool:=hs.any fun h=>Nat.beq h.1 j
noncomputable def isFnV (j:Nat):Bool:=match (gAt dG GT j).2 with
 | .fn _=>true
 | _=>false
noncomputable def isVA (x:E):Bool:=Nat.beq x.ctorIdx 0||Nat.beq x.ctorIdx 7
noncomputable def nI (x:E):Bool:=!Nat.beq x.ctorIdx 15
noncomputable def esLen:Es→Nat
 | .nil=>0
 | .cons _ r=>esLen r+1
noncomputable def okE (x:E):Bool:=E.rec (motive_1:=fun u0=>Bool) (motive_2:=fun u0=>Bool)
 (fun i=>isLoc (kindAt nm i)) (fun i=>isLoc (kindAt nm i)) (fun j=>hasG hs j&&Nat.blt j GT.length) (fun u0=>true) (fun u0=>true) (fun u0=>true) true
 (fun o k a=>isVA o&&(Nat.blt k AT.length&&a)) (fun u0 u0 u0 a b=>a&&b) (fun u0=>true) (fun u0 u0 u0 a b=>a&&b) (fun u0 u0 u0 u0 u0 a b c=>a&&(b&&c))
 (fun x y a b=>(nI x&&a)&&(nI y&&b)) (fun x y a b=>(nI x&&a)&&(nI y&&b)) (fun x a=>nI x&&a) (fun x u0 u0 c a b=>(nI x&&c)&&(a&&b))
 (fun j u0 a=>hasG hs j&&(isFnV j&&(Nat.blt j 900&&a))) (fun f u0 a=>hasG hs (900+f.ix)&&a)
 (fun o j as a b=>isVA o&&(Nat.blt j MN.length&&(a&&(b&&Nat.blt (esLen as) 30))))
 (fun o u0 a b=>isVA o&&(a&&b)) (fun o u0 a b=>isVA o&&(a&&b)) (fun o a=>isVA o&&a) (fun o a=>isVA o&&a)
 (fun u0 a=>hasG hs 905&&a) (fun u0 u0=>false) (fun u0 a=>hasG hs 904&&a) (fun u0 u0 u0 u0 u0=>false) (fun u0 a=>a) (fun u0 a=>a) true
 (fun u0 u0 a b=>a&&b) (fun u0 u0 u0 a b c=>a&&(b&&c)) (fun u0 u0 a b=>a&&b) (fun u0 u0 a b=>a&&b) (fun u0 a=>a)
 (fun u0 u0 u0 u0 u0 u0 u0=>false) (fun u0 u0 u0 u0 u0 u0 u0=>false) true (fun u0 u0 a b=>a&&b) x
end
theorem gAt_get {α:Type} (d:α):∀ (l:List α) (i:Nat),Nat.blt i l.length=true→l[i]?=some (gAt d l i)
 | [],_,h=>nomatch h
 | _::_,0,_=>rfl
 | _::l,i+1,h=>gAt_get d l i h
theorem gAt_or {α:Type} (d:α):∀ (l:List α) (i:Nat),gAt d l i=d∨l[i]?=some (gAt d l i)
 | [],_=>.inl rfl
 | _::_,0=>.inr rfl
 | _::l,i+1=>gAt_or d l i
section
variable {g:G} {nm:List (Str × NameKind)} {hs:List (Nat × Nat)}
theorem var_at {i:Nat} (h:isLoc (kindAt nm i)=true):nm[i]?=some (nmx nm i,kindAt nm i):=(gAt_or d0 nm i).elim (fun q=>nomatch (show isLoc d0.2=true from q▸h)) id
theorem head_el {P:PySem.Expr→Prop} (h1:∀ x p,P (.Name x p)) (h2:∀ c k p,P (.Constant c k p)) (h3:∀ a x p,P (.Attribute a x p)) (h4:∀ a o b p,P (.BinOp a o b p)) (h5:∀ o a p,P (.UnaryOp o a p))
  (h6:∀ a os bs p,P (.Compare a os bs p)) (h7:∀ o as p,P (.BoolOp o as p)) (h8:∀ a b c p,P (.IfExp a b c p)) (h9:∀ f as p,P (.Call f as [] p)) (h10:∀ es k p,P (.Tuple es k p)) (h11:∀ es p,P (.List es p))
  (h12:∀ p,P (.Dict [] [] p)) (h13:∀ a b p,P (.Subscript a b p)) (x:E) (e:PySem.Expr):P (dE nm x e):=
 E.casesOn (motive_1:=fun x=>P (dE nm x e)) x (fun u0=>h1 _ _) (fun u0=>h1 _ _) (fun u0=>h1 _ _) (fun u0=>h2 _ _ _) (fun u0=>h2 _ _ _) (fun u0=>h2 _ _ _) (h2 _ _ _) (fun u0 u0=>h3 _ _ _) (fun u0 u0 u0=>h4 _ _ _ _) (fun u0=>h5 _ _ _)
  (fun u0 u0 u0=>h6 _ _ _ _) (fun u0 u0 u0 u0 u0=>h6 _ _ _ _) (fun u0 u0=>h7 _ _ _) (fun u0 u0=>h7 _ _ _) (fun u0=>h5 _ _ _) (fun u0 u0 u0=>h8 _ _ _ _) (fun u0 u0=>h9 _ _ _) (fun u0 u0=>h9 _ _ _) (fun u0 u0 u0=>h9 _ _ _) (fun u0 u0=>h9 _ _ _) (fun u0 u0=>h9 _ _ _)
  (fun u0=>h9 _ _ _) (fun u0=>h9 _ _ _) (fun u0=>h9 _ _ _) (fun u0=>h2 _ _ _) (fun u0=>h9 _ _ _) (fun u0 u0 u0=>h2 _ _ _) (fun u0=>h10 _ _ _) (fun u0=>h11 _ _) (h12 _) (fun u0 u0=>h13 _ _ _) (fun u0 u0 u0=>h13 _ _ _) (fun u0 u0=>h13 _ _ _) (fun u0 u0=>h13 _ _ _) (fun u0=>h13 _ _ _)
  (fun u0 u0 u0 u0 u0=>h2 _ _ _) (fun u0 u0 u0 u0 u0=>h2 _ _ _)
theorem star_d {pes:List PySem.Expr} (env:Env):∀ (x:E) (e:PySem.Expr),starEach (dE nm x e::pes) env=(false,eval (dE nm x e) env)::starEach pes env:=
 head_el (nm:=nm) (P:=fun y=>starEach (y::pes) env=(false,eval y env)::starEach pes env) (fun u0 u0=>rfl) (fun u0 u0 u0=>rfl) (fun u0 u0 u0=>rfl) (fun u0 u0 u0 u0=>rfl) (fun u0 u0 u0=>rfl) (fun u0 u0 u0 u0=>rfl) (fun u0 u0 u0=>rfl) (fun u0 u0 u0 u0=>rfl) (fun u0 u0 u0=>rfl) (fun u0 u0 u0=>rfl) (fun u0 u0=>rfl) (fun u0=>rfl) (fun u0 u0 u0=>rfl)
theorem sw_d {t:Option PySem.Expr} {l:Nat} (env:Env):∀ (x:E) (e:PySem.Expr),swapsWith (dE nm x e) t l env=pure false:=
 head_el (nm:=nm) (P:=fun y=>swapsWith y t l env=pure false) (fun u0 u0=>rfl) (fun u0 u0 u0=>rfl) (fun u0 u0 u0=>rfl) (fun u0 u0 u0 u0=>rfl) (fun u0 u0 u0=>rfl) (fun u0 u0 u0 u0=>rfl) (fun u0 u0 u0=>rfl) (fun u0 u0 u0 u0=>rfl) (fun u0 u0 u0=>rfl) (fun u0 u0 u0=>rfl) (fun u0 u0=>rfl) (fun u0=>rfl) (fun u0 u0 u0=>rfl)
theorem fold_d (env:Env) (v:Value):∀ (x:E) (e:PySem.Expr),foldedSetIterable (dE nm x e) env v=pure v:=
 head_el (nm:=nm) (P:=fun y=>foldedSetIterable y env v=pure v) (fun u0 u0=>rfl) (fun u0 u0 u0=>rfl) (fun u0 u0 u0=>rfl) (fun u0 u0 u0 u0=>rfl) (fun u0 u0 u0=>rfl) (fun u0 u0 u0 u0=>rfl) (fun u0 u0 u0=>rfl) (fun u0 u0 u0 u0=>rfl) (fun u0 u0 u0=>rfl) (fun u0 u0 u0=>rfl) (fun u0 u0=>rfl) (fun u0=>rfl) (fun u0 u0 u0=>rfl)
theorem beh_d {op:CmpOp}:∀ (x:E) (e:PySem.Expr),behindInMarks op (dE nm x e)=false:=
 head_el (nm:=nm) (P:=fun y=>behindInMarks op y=false) (fun u0 u0=>rfl) (fun u0 u0 u0=>rfl) (fun u0 u0 u0=>rfl) (fun u0 u0 u0 u0=>rfl) (fun u0 u0 u0=>rfl) (fun u0 u0 u0 u0=>rfl) (fun u0 u0 u0=>rfl) (fun u0 u0 u0 u0=>rfl) (fun u0 u0 u0=>rfl) (fun u0 u0 u0=>rfl) (fun u0 u0=>rfl) (fun u0=>rfl) (fun u0 u0 u0=>rfl)
theorem sub_d (o i:Value):∀ (x:E) (e:PySem.Expr),subscripted (dE nm x e) false o i=operate [o,i] (getItem o i):=
 head_el (nm:=nm) (P:=fun y=>subscripted y false o i=operate [o,i] (getItem o i)) (fun u0 u0=>rfl) (fun u0 u0 u0=>rfl) (fun u0 u0 u0=>rfl) (fun u0 u0 u0 u0=>rfl) (fun u0 u0 u0=>rfl) (fun u0 u0 u0 u0=>rfl) (fun u0 u0 u0=>rfl) (fun u0 u0 u0 u0=>rfl) (fun u0 u0 u0=>rfl) (fun u0 u0 u0=>rfl) (fun u0 u0=>rfl) (fun u0=>rfl) (fun u0 u0 u0=>rfl)
theorem nst_d (t:PySem.Expr) (p:Pos) (x:E) (e:PySem.Expr) (h:dE nm x e=.Starred t p):False:=
 nomatch (head_el (nm:=nm) (P:=fun y=>Nat.beq y.ctorIdx 22=false) (fun u0 u0=>rfl) (fun u0 u0 u0=>rfl) (fun u0 u0 u0=>rfl) (fun u0 u0 u0 u0=>rfl) (fun u0 u0 u0=>rfl) (fun u0 u0 u0 u0=>rfl) (fun u0 u0 u0=>rfl) (fun u0 u0 u0 u0=>rfl) (fun u0 u0 u0=>rfl) (fun u0 u0 u0=>rfl) (fun u0 u0=>rfl) (fun u0=>rfl) (fun u0 u0 u0=>rfl) x e).symm.trans (congrArg (fun y=>Nat.beq y.ctorIdx 22) h)
theorem HintOk.mem:∀ {hs:List (Nat × Nat)},hs.map (fun h=>nm[h.2]?)=hs.map (fun h=>some (gnm h.1,NameKind.globalImplicit))→∀ {j:Nat},hasG hs j=true→(gnm j,NameKind.globalImplicit)∈nm
 | []=>@fun u0 u0 h=>nomatch h
 | (a,b)::r=>@fun e j h=>by
  have e:=List.cons.inj e
  have h:(Nat.beq a j||hasG r j)=true:=h
  cases c:Nat.beq a j with
  | true=>
   cases Nat.eq_of_beq_eq_true c
   exact List.mem_of_getElem? e.1
  | false=>rw [c] at h;exact HintOk.mem e.2 h
theorem or_el {a b:Bool} {p:Prop} (h:(a||b)=true) (f:a=true→p) (k:b=true→p):p:=by
 cases a with
 | true=>exact f rfl
 | false=>exact k h
theorem isVA_el {P:E→Prop} (hv:∀ i,P (.var i)) (ha:∀ p k,P (.attr p k)) (o:E) (h:isVA o=true):P o:=
 or_el (a:=Nat.beq o.ctorIdx 0) (b:=Nat.beq o.ctorIdx 7) h (fun h=>E.var.elim (motive_1:=P) o (Nat.eq_of_beq_eq_true h) hv) fun h=>E.attr.elim (motive_1:=P) o (Nat.eq_of_beq_eq_true h) ha
theorem blt_mem:∀ f:Blt,(gnm (900+f.ix),Value.builtin f.id)∈BT
 | .len=>.head _
 | .min=>.tail _ (.head _)
 | .max=>.tail _ (.tail _ (.head _))
 | .abs=>.tail _ (.tail _ (.tail _ (.head _)))
theorem gnm_g {j:Nat} (h:Nat.blt j 900=true):gnm j=(gAt dG GT j).1:=by
 have hj:Nat.ble 900 j=false:=Bool.eq_false_iff.mpr fun q=>absurd (Nat.blt_eq.mp h) (Nat.not_lt.mpr (Nat.le_of_ble_eq_true q))
 unfold gnm;rw [hj];rfl
theorem glb_get {j:Nat} (h:Nat.blt j GT.length=true):∃ v,GT[j]?=some (gnm j,v):=
 ⟨_,(gAt_get dG GT j h).trans (congrArg (fun x=>some (x,(gAt dG GT j).2)) (gnm_g (Nat.blt_eq.mpr (Nat.lt_of_lt_of_le (Nat.blt_eq.mp h) (show GT.length≤900 by exact Nat.le_of_ble_eq_true rfl)))).symm)⟩
theorem fn_get {j:Nat} (h:isFnV j=true) (h9:Nat.blt j 900=true):∃ f,GT[j]?=some (gnm j,.fn f):=by
 rw [gnm_g h9]
 refine (gAt_or dG GT j).elim (fun q=>?_) fun q=>?_
 ·unfold isFnV at h;rw [q] at h;trivial
 ·unfold isFnV at h
  generalize gAt dG GT j=p at h q
  rcases p with ⟨x,v⟩
  exact V.fn.elim (motive_1:=fun v=>GT[j]?=some (x,v)→∃ f,GT[j]?=some (x,.fn f)) v (by cases v<;>first | rfl | exact of_decide_eq_true h) (fun f q=>⟨f,q⟩) q
end
end Mine
namespace Mine
section
variable {g:G} {nm:List (Str × NameKind)} {hs:List (Nat × Nat)}
noncomputable abbrev dEs (nm:List (Str × NameKind)) (es:Es) (l:List PySem.Expr):List PySem.Expr:=kids (dE nm (.tup es) (.Tuple l 0 default))
set_option tactic.hygienic true in
theorem len_d (es:Es) (l:List PySem.Expr):(dEs nm es l).length=esLen es:=by
 induction es using Es.rec (motive_1:=fun u0=>True) generalizing l<;>first | trivial | rfl | (rename_i ih;exact congrArg Nat.succ (ih l.tail))
theorem attr_d (G:GlobOk g) {o:E} {e:PySem.Expr} {k:Nat} {pos:Pos} (ho:isVA o=true) (S:Snd g nm (dE nm o e) o) (hk:Nat.blt k AT.length=true):Snd g nm (.Attribute (dE nm o e) (gAt "" AT k) pos) (.attr o k):=
 isVA_el (P:=fun o=>Snd g nm (dE nm o e) o→Snd g nm (.Attribute (dE nm o e) (gAt "" AT k) pos) (.attr o k)) (fun u0 S=>snd_attr G S (gAt_get _ _ _ hk) fun u0=>rfl) (fun u0 u0 S=>snd_attr G S (gAt_get _ _ _ hk) fun u0=>rfl) o ho S
theorem meth_he {o:E} {e:PySem.Expr} {x:Str} {pas:List PySem.Expr} {as:Es} {apos pos:Pos} (ho:isVA o=true) (Ss:SndEs g nm pas as) (hl:Nat.blt pas.length 30=true) (hp:apos.endLine=pos.line) (env:Env) :
  eval (.Call (.Attribute (dE nm o e) x apos) pas [] pos) env=(do
   let ov ← eval (dE nm o e) env
   standAt apos.atName
   let (f,first) ← holding [ov] (getMethod ov x (do return (← importBound (dE nm o e) env).getD true))
   callWith pos f first (backTo pos (starEach pas env)) (backToKw pos (keywordEach [] env))):=by
 have hb:attributeBase (dE nm o e) x env (eval (dE nm o e) env)=eval (dE nm o e) env:=isVA_el (P:=fun o=>attributeBase (dE nm o e) x env (eval (dE nm o e) env)=eval (dE nm o e) env) (fun u0=>rfl) (fun u0 u0=>rfl) o ho
 have h1:(backTo pos (starEach pas env)).all (!·.1)=true:=by
  have:=Ss.star env pos
  rw [List.any_eq_false] at this
  rw [List.all_eq_true]
  intro y hy
  have:=this y hy
  cases c:y.1 with
  | true=>exact absurd c this
  | false=>rfl
 have hf:methodCallForm (pas.length+([]:List Keyword).length) (backTo pos (starEach pas env)) (backToKw pos (keywordEach [] env))=true:=by
  show ((backTo pos (starEach pas env)).all (!·.1)&&true&&decide (pas.length+0+0 < 30))=true
  rw [h1,decide_eq_true (show pas.length+0+0 < 30 from Nat.blt_eq.mp hl)];rfl
 have hq:(apos.endLine==pos.line)=true:=by rw [hp];exact decide_eq_true rfl
 show (attributeBase (dE nm o e) x env (eval (dE nm o e) env) >>= fun ov=>standAt apos.atName >>= fun u0=>methodCall (dE nm o e) x apos pos env ov (pas.length+([]:List Keyword).length) (backTo pos (starEach pas env)) (backToKw pos (keywordEach [] env)))=_
 rw [hb]
 unfold methodCall
 rw [hf]
 unfold methodCallPos
 rw [hq]
 rfl
theorem meth_d (G:GlobOk g) {o:E} {e:PySem.Expr} {k:Nat} {as:Es} {pas:List PySem.Expr} {apos pos:Pos} (ho:isVA o=true) (S:Snd g nm (dE nm o e) o) (hk:Nat.blt k MN.length=true) (Ss:SndEs g nm pas as) (hl:Nat.blt pas.length 30=true) (hp:apos.endLine=pos.line) :
  Snd g nm (.Call (.Attribute (dE nm o e) (gAt "" MN k) apos) pas [] pos) (.meth o k as):=snd_meth G S (gAt_get _ _ _ hk) Ss _ (meth_he ho Ss hl hp)
theorem append_d (G:GlobOk g) {o x:E} {e px:PySem.Expr} {apos pos:Pos} (ho:isVA o=true) (S:Snd g nm (dE nm o e) o) (Sx:Snd g nm (dE nm x px) x) (hp:apos.endLine=pos.line) :
  Snd g nm (.Call (.Attribute (dE nm o e) (Str.ofString "append") apos) [dE nm x px] [] pos) (.append o x):=
 snd_append G S Sx (fun u0=>star_d _ _ _) _ (meth_he ho (sndEs_cons Sx sndEs_nil fun u0=>star_d _ _ _) rfl hp)
theorem extend_d (G:GlobOk g) {o x:E} {e px:PySem.Expr} {apos pos:Pos} (ho:isVA o=true) (S:Snd g nm (dE nm o e) o) (Sx:Snd g nm (dE nm x px) x) (hp:apos.endLine=pos.line) :
  Snd g nm (.Call (.Attribute (dE nm o e) (Str.ofString "extend") apos) [dE nm x px] [] pos) (.extend o x):=
 snd_extend G S Sx (fun u0=>star_d _ _ _) _ (meth_he ho (sndEs_cons Sx sndEs_nil fun u0=>star_d _ _ _) rfl hp)
theorem pop_d (G:GlobOk g) {o:E} {e:PySem.Expr} {apos pos:Pos} (ho:isVA o=true) (S:Snd g nm (dE nm o e) o) (hp:apos.endLine=pos.line) :
  Snd g nm (.Call (.Attribute (dE nm o e) (Str.ofString "pop") apos) [] [] pos) (.pop o):=snd_pop G S _ (meth_he ho (sndEs_nil (g:=g)) rfl hp)
theorem pop0_d (G:GlobOk g) {o:E} {e:PySem.Expr} {apos pos p:Pos} {k:Nat} (ho:isVA o=true) (S:Snd g nm (dE nm o e) o) (hp:apos.endLine=pos.line) :
  Snd g nm (.Call (.Attribute (dE nm o e) (Str.ofString "pop") apos) [.Constant (.int 0) k p] [] pos) (.pop0 o):=
 snd_pop0 G S _ (meth_he ho (sndEs_cons (g:=g) (snd_int (i:=0)) sndEs_nil fun u0=>rfl) rfl hp)
structure Both (g:G) (nm:List (Str × NameKind)) (pe:PySem.Expr) (e:E):Prop where
 s:Snd g nm pe e
 b:nI e=true→SndB g nm pe e
theorem Both.pl {pe:PySem.Expr} {e:E} (s:Snd g nm pe e) (he:∀ env whole,isTrue pe env whole=(do let v ← whole;standAt pe.pos;holding [v] (truthy v))):Both g nm pe e:=⟨s,fun u0=>sndB_plain s he⟩
noncomputable abbrev Hint (nm:List (Str × NameKind)) (hs:List (Nat × Nat)):Prop:=hs.map (fun h=>nm[h.2]?)=hs.map (fun h=>some (gnm h.1,NameKind.globalImplicit))
variable (G:GlobOk g) (hh:Hint nm hs)
include G hh
theorem dE_ok (x:E):∀ e:PySem.Expr,okE nm hs x=true→Both g nm (dE nm x e) x:=E.rec (motive_1:=fun x=>∀ e:PySem.Expr,okE nm hs x=true→Both g nm (dE nm x e) x)
 (motive_2:=fun es=>∀ l:List PySem.Expr,okE nm hs (.tup es)=true→SndEs g nm (dEs nm es l) es)
 (fun u0 u0 h=>.pl (snd_var (var_at h) h) fun u0 u0=>rfl)
 (fun u0 u0 h=>.pl (snd_frz (var_at h) h) fun u0 u0=>rfl)
 (fun j u0 (h:(hasG hs j&&Nat.blt j GT.length)=true)=>.pl (let ⟨_,q⟩:=glb_get (and_1 h).2;snd_glb G (HintOk.mem hh (and_1 h).1) q) fun u0 u0=>rfl)
 (fun u0 u0 u0=>.pl snd_int fun u0 u0=>rfl)
 (fun u0 u0 u0=>.pl snd_str fun u0 u0=>rfl)
 (fun u0 u0 u0=>.pl snd_bool fun u0 u0=>rfl)
 (fun u0 u0=>.pl snd_none fun u0 u0=>rfl)
 (fun x k o u0 (h:(isVA x&&(Nat.blt k AT.length&&okE nm hs x))=true)=>.pl (attr_d G (and_1 h).1 (o _ (and_1 (and_1 h).2).2).s (and_1 (and_1 h).2).1) fun u0 u0=>rfl)
 (fun u0 x y a b u0 (h:(okE nm hs x&&okE nm hs y)=true)=>.pl (snd_bin G (a _ (and_1 h).1).s (b _ (and_1 h).2).s) fun u0 u0=>rfl)
 (fun u0 u0 u0=>.pl snd_neg fun u0 u0=>rfl)
 (fun u0 x y a b u0 (h:(okE nm hs x&&okE nm hs y)=true)=>⟨snd_cmp G (a _ (and_1 h).1).s (b _ (and_1 h).2).s (beh_d y _),fun u0=>sndB_cmp G (a _ (and_1 h).1).s (b _ (and_1 h).2).s (beh_d y _)⟩)
 (fun u0 u0 x y z a b c u0 (h:(okE nm hs x&&(okE nm hs y&&okE nm hs z))=true)=>⟨snd_cmp2 G (a _ (and_1 h).1).s (b _ (and_1 (and_1 h).2).1).s (c _ (and_1 (and_1 h).2).2).s (beh_d z _),fun u0=>sndB_cmp2 G (a _ (and_1 h).1).s (b _ (and_1 (and_1 h).2).1).s (c _ (and_1 (and_1 h).2).2).s (beh_d z _)⟩)
 (fun x y a b u0 (h:((nI x&&okE nm hs x)&&(nI y&&okE nm hs y))=true)=>⟨snd_and (a _ (and_1 (and_1 h).1).2).s (b _ (and_1 (and_1 h).2).2).s,fun u0=>sndB_and ((a _ (and_1 (and_1 h).1).2).b (and_1 (and_1 h).1).1) ((b _ (and_1 (and_1 h).2).2).b (and_1 (and_1 h).2).1)⟩)
 (fun x y a b u0 (h:((nI x&&okE nm hs x)&&(nI y&&okE nm hs y))=true)=>⟨snd_or (a _ (and_1 (and_1 h).1).2).s (b _ (and_1 (and_1 h).2).2).s,fun u0=>sndB_or ((a _ (and_1 (and_1 h).1).2).b (and_1 (and_1 h).1).1) ((b _ (and_1 (and_1 h).2).2).b (and_1 (and_1 h).2).1)⟩)
 (fun x a u0 (h:(nI x&&okE nm hs x)=true)=>⟨snd_not (a _ (and_1 h).2).s,fun u0=>sndB_not ((a _ (and_1 h).2).b (and_1 h).1)⟩)
 (fun x y z c a b u0 (h:((nI x&&okE nm hs x)&&(okE nm hs y&&okE nm hs z))=true)=>⟨snd_ite ((c _ (and_1 (and_1 h).1).2).b (and_1 (and_1 h).1).1) (a _ (and_1 (and_1 h).2).1).s (b _ (and_1 (and_1 h).2).2).s,fun q=>nomatch q⟩)
 (fun j es as u0 (h:(hasG hs j&&(isFnV j&&(Nat.blt j 900&&okE nm hs (.tup es))))=true)=>.pl (let ⟨_,q⟩:=fn_get (and_1 (and_1 h).2).1 (and_1 (and_1 (and_1 h).2).2).1;snd_call G (HintOk.mem hh (and_1 h).1) q (as _ (and_1 (and_1 (and_1 h).2).2).2)) fun u0 u0=>rfl)
 (fun f es as u0 (h:(hasG hs (900+f.ix)&&okE nm hs (.tup es))=true)=>.pl (snd_bcall G (HintOk.mem hh (and_1 h).1) (blt_mem f) (as _ (and_1 h).2)) fun u0 u0=>rfl)
 (fun x j es o as u0 (h:(isVA x&&(Nat.blt j MN.length&&(okE nm hs x&&(okE nm hs (.tup es)&&Nat.blt (esLen es) 30))))=true)=>.pl (meth_d G (and_1 h).1 (o _ (and_1 (and_1 (and_1 h).2).2).1).s (and_1 (and_1 h).2).1 (as _ (and_1 (and_1 (and_1 (and_1 h).2).2).2).1) ((congrArg (Nat.blt · 30) (len_d es _)).trans (and_1 (and_1 (and_1 (and_1 h).2).2).2).2) rfl) fun u0 u0=>rfl)
 (fun y z o x u0 (h:(isVA y&&(okE nm hs y&&okE nm hs z))=true)=>.pl (append_d G (and_1 h).1 (o _ (and_1 (and_1 h).2).1).s (x _ (and_1 (and_1 h).2).2).s rfl) fun u0 u0=>rfl)
 (fun y z o x u0 (h:(isVA y&&(okE nm hs y&&okE nm hs z))=true)=>.pl (extend_d G (and_1 h).1 (o _ (and_1 (and_1 h).2).1).s (x _ (and_1 (and_1 h).2).2).s rfl) fun u0 u0=>rfl)
 (fun y o u0 (h:(isVA y&&okE nm hs y)=true)=>.pl (pop_d G (and_1 h).1 (o _ (and_1 h).2).s rfl) fun u0 u0=>rfl)
 (fun y o u0 (h:(isVA y&&okE nm hs y)=true)=>.pl (pop0_d G (and_1 h).1 (o _ (and_1 h).2).s rfl) fun u0 u0=>rfl)
 (fun y x u0 (h:(hasG hs 905&&okE nm hs y)=true)=>.pl (snd_listOf G (HintOk.mem hh (and_1 h).1) (List.mem_of_getElem? (i:=5) rfl) (x _ (and_1 h).2).s fun env=>star_d env y _) fun u0 u0=>rfl)
 (fun u0 u0 u0 h=>nomatch h)
 (fun y x u0 (h:(hasG hs 904&&okE nm hs y)=true)=>.pl (snd_sortedD G (HintOk.mem hh (and_1 h).1) (List.mem_of_getElem? (i:=4) rfl) (x _ (and_1 h).2).s fun env=>star_d env y _) fun u0 u0=>rfl)
 (fun u0 u0 u0 u0 u0 u0 h=>nomatch h)
 (fun u0 es u0 h=>.pl (snd_tup (es _ h)) fun u0 u0=>rfl)
 (fun u0 es u0 h=>.pl (snd_lst G (es _ h)) fun u0 u0=>rfl)
 (fun u0 u0=>.pl (snd_dict G) fun u0 u0=>rfl)
 (fun x y a i u0 (h:(okE nm hs x&&okE nm hs y)=true)=>.pl (snd_idx G (a _ (and_1 h).1).s (i _ (and_1 h).2).s fun o i=>sub_d o i y _) fun u0 u0=>rfl)
 (fun x y z a l u u0 (h:(okE nm hs x&&(okE nm hs y&&okE nm hs z))=true)=>.pl (snd_slc G (a _ (and_1 h).1).s (l _ (and_1 (and_1 h).2).1).s (u _ (and_1 (and_1 h).2).2).s) fun u0 u0=>rfl)
 (fun x y a u u0 (h:(okE nm hs x&&okE nm hs y)=true)=>.pl (snd_slcTo G (a _ (and_1 h).1).s (u _ (and_1 h).2).s) fun u0 u0=>rfl)
 (fun x y a l u0 (h:(okE nm hs x&&okE nm hs y)=true)=>.pl (snd_slcFrom G (a _ (and_1 h).1).s (l _ (and_1 h).2).s) fun u0 u0=>rfl)
 (fun u0 a u0 h=>.pl (snd_rev G (a _ h).s) fun u0 u0=>rfl)
 (fun u0 u0 u0 u0 u0 u0 u0 u0 h=>nomatch h)
 (fun u0 u0 u0 u0 u0 u0 u0 u0 h=>nomatch h)
 (fun u0 u0=>sndEs_nil)
 (fun y es x r u0 (h:(okE nm hs y&&okE nm hs (.tup es))=true)=>sndEs_cons (x _ (and_1 h).1).s (r _ (and_1 h).2) fun env=>star_d env y _)
 x
set_option tactic.hygienic true in
theorem dEs_ok (es:Es) (l:List PySem.Expr) (h:okE nm hs (.tup es)=true):SndEs g nm (dEs nm es l) es:=by
 induction es using Es.rec (motive_1:=fun u0=>True) generalizing l
 case nil=>exact sndEs_nil
 case cons x r _ ih=>
  have h:(okE nm hs x&&okE nm hs (.tup r))=true:=h
  exact sndEs_cons (dE_ok G hh x _ (and_1 h).1).s (ih l.tail (and_1 h).2) fun env=>star_d env x _
 all_goals trivial
end
noncomputable def sparts:Stmt→(PySem.Expr × PySem.Expr) × List Stmt × List Stmt
 | .Assign ts e _=>((gAt nul ts 0,e),[],[])
 | .For t e b _ _=>((t,e),b,[])
 | .Expr e _=>((nul,e),[],[])
 | .Return e _=>((nul,e.getD nul),[],[])
 | .Raise e _ _=>((nul,e.getD nul),[],[])
 | .If e b o _=>((nul,e),b,o)
 | .While e b _ _=>((nul,e),b,[])
 | _=>((nul,nul),[],[])
noncomputable def stT (s:Stmt):PySem.Expr:=(sparts s).1.1
noncomputable def stE (s:Stmt):PySem.Expr:=(sparts s).1.2
noncomputable def stB (s:Stmt):List Stmt:=(sparts s).2.1
noncomputable def stO (s:Stmt):List Stmt:=(sparts s).2.2
noncomputable def isZ (l:E):Bool:=E.casesOn (motive_1:=fun u0=>Bool) l (fun u0=>false) (fun u0=>false) (fun u0=>false) (fun i=>decide (i=0)) (fun u0=>false) (fun u0=>false) false (fun u0 u0=>false) (fun u0 u0 u0=>false) (fun u0=>false) (fun u0 u0 u0=>false) (fun u0 u0 u0 u0 u0=>false) (fun u0 u0=>false) (fun u0 u0=>false) (fun u0=>false) (fun u0 u0 u0=>false) (fun u0 u0=>false) (fun u0 u0=>false) (fun u0 u0 u0=>false) (fun u0 u0=>false) (fun u0 u0=>false) (fun u0=>false) (fun u0=>false) (fun u0=>false) (fun u0=>false) (fun u0=>false) (fun u0 u0 u0=>false) (fun u0=>false) (fun u0=>false) false (fun u0 u0=>false) (fun u0 u0 u0=>false) (fun u0 u0=>false) (fun u0 u0=>false) (fun u0=>false) (fun u0 u0 u0 u0 u0=>false) (fun u0 u0 u0 u0 u0=>false)
noncomputable def isLC (k:NameKind):Bool:=Nat.beq k.ctorIdx NameKind.local.ctorIdx||Nat.beq k.ctorIdx NameKind.cell.ctorIdx
noncomputable def isCallE (x:E):Bool:=Nat.beq x.ctorIdx 16||Nat.beq x.ctorIdx 17
noncomputable def esCall:Es→Bool
 | .nil=>false
 | .cons x r=>isCallE x||esCall r
section
variable (nm:List (Str × NameKind))
noncomputable def dNs:List Nat→List PySem.Expr→List PySem.Expr
 | [],_=>[]
 | i::is,l=>.Name (nmx nm i) (gAt nul l 0).pos::dNs is l.tail
noncomputable def dTgt (one:Bool) (is:List Nat) (t:PySem.Expr):PySem.Expr:=match one with
 | true=>gAt nul (dNs nm is [t]) 0
 | false=>.Tuple (dNs nm is (kids t)) (num t) t.pos
noncomputable def dX (is:List Nat) (es:Es) (s:Stmt):Stmt:=
 .Assign [.Tuple [.Name (nmx nm (gAt 0 is 0)) (kid 0 (stT s)).pos,.Name (nmx nm (gAt 0 is 1)) ⟨(kid 0 (stT s)).pos.line,(kid 1 (stT s)).pos.col,(kid 1 (stT s)).pos.endLine,(kid 1 (stT s)).pos.endCol⟩] (num (stT s)) (stT s).pos]
  (.Tuple (dEs nm es (kids (stE s))) (num (stE s)) (stE s).pos) s.pos
noncomputable def dS (x:S):Stmt→Stmt:=S.rec (motive_1:=fun u0=>Stmt→Stmt) (motive_2:=fun u0=>List Stmt→List Stmt)
 (fun i e s=>.Assign [.Name (nmx nm i) (stT s).pos] (dE nm e (stE s)) s.pos)
 (fun is e s=>.Assign [.Tuple (dNs nm is (kids (stT s))) (num (stT s)) (stT s).pos] (dE nm e (stE s)) s.pos)
 (fun is es s=>dX nm is es s)
 (fun o k e s=>.Assign [.Attribute (dE nm o (kid 0 (stT s))) (gAt "" AT k) (stT s).pos] (dE nm e (stE s)) s.pos)
 (fun u0 u0 u0 u0 u0 u0 s=>.Pass s.pos)
 (fun o i v s=>.Assign [.Subscript (dE nm o (kid 0 (stT s))) (dE nm i (kid 1 (stT s))) (stT s).pos] (dE nm v (stE s)) s.pos)
 (fun o l u v s=>.Assign [.Subscript (dE nm o (kid 0 (stT s))) (.Slice (some (dE nm l (kid 0 (kid 1 (stT s))))) (some (dE nm u (kid 1 (kid 1 (stT s))))) none (kid 1 (stT s)).pos) (stT s).pos] (dE nm v (stE s)) s.pos)
 (fun e s=>.Expr (dE nm e (stE s)) s.pos)
 (fun e s=>.Return (some (dE nm e (stE s))) s.pos)
 (fun s=>.Return none s.pos)
 (fun x es s=>.Raise (some (.Call (.Name "LispSignal" (kid 0 (stE s)).pos) [.Constant (.str x) (num (kid 1 (stE s))) (kid 1 (stE s)).pos,.List (dEs nm es (kids (kid 2 (stE s)))) (kid 2 (stE s)).pos] [] (stE s).pos)) none s.pos)
 (fun s=>.Pass s.pos)
 (fun s=>s)
 (fun c u0 u0 t f s=>.If (dE nm c (stE s)) (t (stB s)) (f (stO s)) s.pos)
 (fun c u0 b s=>.While (dE nm c (stE s)) (b (stB s)) [] s.pos)
 (fun is one e u0 b s=>.For (dTgt nm one is (stT s)) (dE nm e (stE s)) (b (stB s)) [] s.pos)
 (fun i l u u0 b s=>.For (.Name (nmx nm i) (stT s).pos) (.Call (.Name (gnm 906) (kid 0 (stE s)).pos) (bif (Nat.beq l.ctorIdx 3&&isZ l) then [dE nm u (kid 1 (stE s))] else [dE nm l (kid 1 (stE s)),dE nm u (kid 2 (stE s))]) [] (stE s).pos) (b (stB s)) [] s.pos)
 (fun u0 u0 u0 u0 u0 s=>.Pass s.pos)
 (fun u0=>[])
 (fun u0 u0 x r l=>x (gAt (.Pass default) l 0)::r l.tail)
 x
variable (hs:List (Nat × Nat))
noncomputable def okT:List Nat→Bool
 | []=>true
 | i::is=>isLC (kindAt nm i)&&okT is
noncomputable def isLo (i:Nat):Bool:=Nat.beq (kindAt nm i).ctorIdx NameKind.local.ctorIdx
noncomputable def okS (x:S):Bool:=S.rec (motive_1:=fun u0=>Bool) (motive_2:=fun u0=>Bool)
 (fun i e=>isLC (kindAt nm i)&&okE nm hs e)
 (fun is e=>okT nm is&&((Nat.beq e.ctorIdx 16||Nat.beq e.ctorIdx 30)&&okE nm hs e))
 (fun is es=>(Nat.beq is.length 2&&Nat.beq (esLen es) 2)&&((isLo nm (gAt 0 is 0)&&isLo nm (gAt 0 is 1))&&((!(nmx nm (gAt 0 is 1)==nmx nm (gAt 0 is 0)))&&(esCall es&&okE nm hs (.tup es)))))
 (fun o k e=>Nat.blt k AT.length&&(okE nm hs o&&okE nm hs e))
 (fun u0 u0 u0 u0 u0 u0=>false)
 (fun o i v=>okE nm hs o&&(okE nm hs i&&okE nm hs v))
 (fun o l u v=>okE nm hs o&&(okE nm hs l&&(okE nm hs u&&okE nm hs v)))
 (fun e=>okE nm hs e) (fun e=>okE nm hs e) true
 (fun u0 es=>hasG hs 73&&okE nm hs (.tup es))
 true true
 (fun c u0 u0 t f=>(nI c&&okE nm hs c)&&(t&&f))
 (fun c u0 b=>(nI c&&okE nm hs c)&&b)
 (fun is one e u0 b=>okT nm is&&(okE nm hs e&&(b&&(!one||Nat.beq is.length 1))))
 (fun i l u u0 b=>isLC (kindAt nm i)&&(hasG hs 906&&(okE nm hs l&&(okE nm hs u&&b))))
 (fun u0 u0 u0 u0 u0=>false)
 true (fun u0 u0 x r=>x&&r) x
end
noncomputable abbrev dSs (nm:List (Str × NameKind)) (m:List S) (l:List Stmt):List Stmt:=stB (dS nm (.whl .none m) (.While nul l [] default))
section
variable {g:G} {nm:List (Str × NameKind)} {hs:List (Nat × Nat)}
theorem isLC_or {k:NameKind} (h:isLC k=true):k=.local∨k=.cell:=by
 cases k<;>first | exact .inl rfl | exact .inr rfl | exact (Bool.false_ne_true h).elim
theorem lc_at {i:Nat} (h:isLC (kindAt nm i)=true):nm[i]?=some (nmx nm i,kindAt nm i):=var_at ((isLC_or h).elim (fun q=>q▸rfl) fun q=>q▸rfl)
theorem lo_at {i:Nat} (h:isLo nm i=true):nm[i]?=some (nmx nm i,.local):=by
 have q:kindAt nm i=.local:=by
  unfold isLo at h
  generalize kindAt nm i=k at h ⊢
  cases k<;>first | rfl | exact (Bool.false_ne_true h).elim
 exact q▸lc_at (nm:=nm) (i:=i) (q▸rfl)
theorem dNs_ok:∀ (is:List Nat) (l:List PySem.Expr),okT nm is=true→TrT nm (dNs nm is l) is
 | []=>@fun u0 u0=>.nil
 | _::is=>@fun l h=>.cons (lc_at (and_1 h).1) (isLC_or (and_1 h).1) (dNs_ok is l.tail (and_1 h).2)
theorem isZ_el {P:E→Prop} (h0:P (.int 0)) (l:E) (c:Nat.beq l.ctorIdx 3=true) (h:isZ l=true):P l:=
 E.int.elim (motive_1:=fun l=>isZ l=true→P l) l (Nat.eq_of_beq_eq_true c) (fun u0 q=>of_decide_eq_true q▸h0) h
theorem call_el {P:PySem.Expr→Prop} (hc:∀ f as p,P (.Call f as [] p)) (x:E) (h:isCallE x=true) (e:PySem.Expr):P (dE nm x e):=
 or_el (a:=Nat.beq x.ctorIdx 16) (b:=Nat.beq x.ctorIdx 17) h (fun h=>E.call.elim (motive_1:=fun x=>P (dE nm x e)) x (Nat.eq_of_beq_eq_true h) fun u0 u0=>hc _ _ _) fun h=>E.bcall.elim (motive_1:=fun x=>P (dE nm x e)) x (Nat.eq_of_beq_eq_true h) fun u0 u0=>hc _ _ _
theorem all_d {p:PySem.Expr→Bool} (hp:∀ f as q,p (.Call f as [] q)=false):∀ (es:Es) (l:List PySem.Expr),esCall es=true→(dEs nm es l).all p=false
 | .nil=>@fun u0 h=>nomatch h
 | .cons x r=>@fun l h=>by
  show (p (dE nm x _)&&(dEs nm r l.tail).all p)=false
  exact or_el h (fun h=>by rw [call_el (P:=fun y=>p y=false) hp x h];rfl) fun h=>by rw [all_d hp r _ h,Bool.and_false]
theorem dX_ok (G:GlobOk g) (hh:Hint nm hs):∀ (is:List Nat) (es:Es) (s:Stmt),okS nm hs (.asgX is es)=true→SndS g nm (dX nm is es s) (.asgX is es)
 | [i,j],.cons a (.cons b .nil),s,h=>
  have h:((isLo nm i&&isLo nm j)&&((!(nmx nm j==nmx nm i))&&(esCall (.cons a (.cons b .nil))&&okE nm hs (.tup (.cons a (.cons b .nil))))))=true:=h
  have h2:=and_1 h
  have h3:=and_1 h2.2
  have h4:=and_1 h3.2
  sndS_asgX2 (lo_at (and_1 h2.1).1) (lo_at (and_1 h2.1).2) (dEs_ok G hh (.cons a (.cons b .nil)) _ h4.2) rfl (Bool.not_eq_true' _▸h3.1)
   (fun e he=>(List.mem_cons.mp he).elim (fun q=>q▸fun t p=>nst_d t p a _) fun he=>(List.mem_cons.mp he).elim (fun q=>q▸fun t p=>nst_d t p b _) fun he=>nomatch he)
   (all_d (nm:=nm) (fun u0 u0 u0=>rfl) (.cons a (.cons b .nil)) (kids (stE s)) h4.1) (all_d (nm:=nm) (fun u0 u0 u0=>rfl) (.cons a (.cons b .nil)) (kids (stE s)) h4.1) fun u0=>rfl
 | [],_,_,h=>nomatch h
 | [_],_,_,h=>nomatch h
 | _::_::_::_,_,_,h=>nomatch h
 | [_,_],.nil,_,h=>nomatch h
 | [_,_],.cons _ .nil,_,h=>nomatch h
 | [_,_],.cons _ (.cons _ (.cons _ _)),_,h=>nomatch h
theorem forL_ok {e:E} {b:List S} {pe t:PySem.Expr} {pb:List Stmt} {pos:Pos} (Se:Snd g nm (dE nm e pe) e) (Sb:SndSs g nm pb b):∀ (one:Bool) (is:List Nat),okT nm is=true→(!one||Nat.beq is.length 1)=true →
  SndS g nm (.For (dTgt nm one is t) (dE nm e pe) pb [] pos) (.forL is one e b)
 | false,is,ht,_=>sndS_forLT (dNs_ok is _ ht) Se (fun env x=>fold_d env x e _) Sb
 | true,[i],ht,_=>sndS_forL1 (lc_at (and_1 ht).1) (isLC_or (and_1 ht).1) Se (fun env x=>fold_d env x e _) Sb
 | true,[],_,ho=>nomatch ho
 | true,_::_::_,_,ho=>nomatch ho
theorem swst_d {es:List PySem.Expr} {k:Nat} {p:Pos} (env:Env) (x:E) (h:(Nat.beq x.ctorIdx 16||Nat.beq x.ctorIdx 30)=true) (e:PySem.Expr):swappedStores [.Tuple es k p] (dE nm x e) env=pure none:=
 or_el h (fun h=>E.call.elim (motive_1:=fun x=>swappedStores [.Tuple es k p] (dE nm x e) env=pure none) x (Nat.eq_of_beq_eq_true h) fun u0 u0=>rfl)
  fun h=>E.idx.elim (motive_1:=fun x=>swappedStores [.Tuple es k p] (dE nm x e) env=pure none) x (Nat.eq_of_beq_eq_true h) fun u0 u0=>rfl
variable (G:GlobOk g) (LK:ExcK g) (hh:Hint nm hs)
include G hh LK
theorem dS_ok (x:S):∀ s:Stmt,okS nm hs x=true→SndS g nm (dS nm x s) x:=S.rec (motive_1:=fun x=>∀ s:Stmt,okS nm hs x=true→SndS g nm (dS nm x s) x) (motive_2:=fun m=>∀ l:List Stmt,okS nm hs (.whl .none m)=true→SndSs g nm (dSs nm m l) m)
 (fun i e u0 (h:(isLC (kindAt nm i)&&okE nm hs e)=true)=>sndS_asg (lc_at (and_1 h).1) (isLC_or (and_1 h).1) (dE_ok G hh e _ (and_1 h).2).s fun env=>sw_d env e _)
 (fun is e u0 (h:(okT nm is&&((Nat.beq e.ctorIdx 16||Nat.beq e.ctorIdx 30)&&okE nm hs e))=true)=>sndS_asgT (dNs_ok is _ (and_1 h).1) (dE_ok G hh e _ (and_1 (and_1 h).2).2).s (fun env=>by unfold swapsWithSole;exact sw_d env e _) fun env=>swst_d env e (and_1 (and_1 h).2).1 _)
 (fun is es s h=>dX_ok G hh is es s h)
 (fun o k e u0 (h:(Nat.blt k AT.length&&(okE nm hs o&&okE nm hs e))=true)=>sndS_asgA G (gAt_get _ _ _ (and_1 h).1) (dE_ok G hh o _ (and_1 (and_1 h).2).1).s (dE_ok G hh e _ (and_1 (and_1 h).2).2).s fun env=>sw_d env e _)
 (fun u0 u0 u0 u0 u0 u0 u0 h=>nomatch h)
 (fun o i v u0 (h:(okE nm hs o&&(okE nm hs i&&okE nm hs v))=true)=>sndS_setI G (dE_ok G hh o _ (and_1 h).1).s (dE_ok G hh i _ (and_1 (and_1 h).2).1).s (dE_ok G hh v _ (and_1 (and_1 h).2).2).s fun env=>sw_d env v _)
 (fun o l u v u0 (h:(okE nm hs o&&(okE nm hs l&&(okE nm hs u&&okE nm hs v)))=true)=>sndS_setSl G (dE_ok G hh o _ (and_1 h).1).s (dE_ok G hh l _ (and_1 (and_1 h).2).1).s (dE_ok G hh u _ (and_1 (and_1 (and_1 h).2).2).1).s (dE_ok G hh v _ (and_1 (and_1 (and_1 h).2).2).2).s fun env=>sw_d env v _)
 (fun e u0 h=>sndS_ex (dE_ok G hh e _ h).s fun env=>sw_d env e _)
 (fun e u0 h=>sndS_ret (dE_ok G hh e _ h).s)
 (fun u0 u0=>sndS_ret0)
 (fun u0 es u0 (h:(hasG hs 73&&okE nm hs (.tup es))=true)=>sndS_raise G LK (j:=73) (HintOk.mem hh (and_1 h).1) rfl (dEs_ok G hh es _ (and_1 h).2))
 (fun u0 u0=>sndS_pass)
 (fun u0 u0=>sndS_dead)
 (fun c x y t f u0 (h:((nI c&&okE nm hs c)&&(okS nm hs (.whl .none x)&&okS nm hs (.whl .none y)))=true)=>sndS_ifs ((dE_ok G hh c _ (and_1 (and_1 h).1).2).b (and_1 (and_1 h).1).1) (t _ (and_1 (and_1 h).2).1) (f _ (and_1 (and_1 h).2).2))
 (fun c x b u0 (h:((nI c&&okE nm hs c)&&okS nm hs (.whl .none x))=true)=>sndS_whl ((dE_ok G hh c _ (and_1 (and_1 h).1).2).b (and_1 (and_1 h).1).1) (b _ (and_1 h).2))
 (fun is one e x b u0 (h:(okT nm is&&(okE nm hs e&&(okS nm hs (.whl .none x)&&(!one||Nat.beq is.length 1))))=true)=>forL_ok (dE_ok G hh e _ (and_1 (and_1 h).2).1).s (b _ (and_1 (and_1 (and_1 h).2).2).1) one is (and_1 h).1 (and_1 (and_1 (and_1 h).2).2).2)
 (fun i l u b ih s h=>by
  have h:(isLC (kindAt nm i)&&(hasG hs 906&&(okE nm hs l&&(okE nm hs u&&okS nm hs (.whl .none b)))))=true:=h
  have h1:=and_1 h
  have h2:=and_1 h1.2
  have h3:=and_1 h2.2
  have h4:=and_1 h3.2
  have Sb:=ih (stB s) h4.2
  show SndS g nm (.For _ (.Call _ (bif (Nat.beq l.ctorIdx 3&&isZ l) then _ else _) _ _) _ _ _) _
  cases c:(Nat.beq l.ctorIdx 3&&isZ l) with
  | true=>
   refine isZ_el (P:=fun l=>SndS g nm (.For (.Name (nmx nm i) (stT s).pos) (.Call (.Name (gnm 906) (kid 0 (stE s)).pos) [dE nm u (kid 1 (stE s))] [] (stE s).pos) (dSs nm b (stB s)) [] s.pos) (.forR i l u b)) ?_ l (and_1 c).1 (and_1 c).2
   exact sndS_forR1 G (HintOk.mem hh h2.1) (List.mem_of_getElem? (i:=6) rfl) (lc_at h1.1) (isLC_or h1.1) (dE_ok G hh u _ h4.1).s Sb (fun env=>star_d env u _) fun u0 u0=>rfl
  | false=>exact sndS_forR2 G (HintOk.mem hh h2.1) (List.mem_of_getElem? (i:=6) rfl) (lc_at h1.1) (isLC_or h1.1) (dE_ok G hh l _ h3.1).s (dE_ok G hh u _ h4.1).s Sb (fun env=>(star_d env l _).trans (congrArg _ (star_d env u _))) fun u0 u0=>rfl)
 (fun u0 u0 u0 u0 u0 u0 h=>nomatch h)
 (fun u0 u0=>sndSs_nil)
 (fun y m x r u0 (h:(okS nm hs y&&okS nm hs (.whl .none m))=true)=>sndSs_cons (x _ (and_1 h).1) (r _ (and_1 h).2))
 x
theorem told {m:List S} {body:List Stmt} (o:true=okS nm hs (.whl .none m)) (e:dSs nm m body=body):SndSs g nm body m:=by
 have:SndSs g nm (dSs nm m body) m:=by
  clear e
  induction m generalizing body with
  | nil=>exact sndSs_nil
  | cons x r ih=>
   have h:(okS nm hs x&&okS nm hs (.whl .none r))=true:=o.symm
   exact sndSs_cons (dS_ok G LK hh x _ (and_1 h).1) (ih (and_1 h).2.symm)
 rw [e] at this;exact this
end
end Mine
namespace Mine
noncomputable def m_LispSignal___init__:List S:=[.asgA (.var 0) 30 (.var 1),.asgA (.var 0) 31 (.var 2)]
noncomputable def m_need_writable:List S:=[.ifs (.attr (.var 0) 0) [.raise (Str.ofString "buffer-read-only") (.cons (.attr (.var 0) 1) (.nil))] []]
noncomputable def m_need_room:List S:=[.ifs (.cmp .Gt (.bin .add (.meth (.var 0) 1 (.nil)) (.var 1)) (.glb 0)) [.raise (Str.ofString "error") (.cons (.str (Str.ofString "Maximum buffer size exceeded")) (.nil))] []]
noncomputable def m_reached:List S:=[.asgX [3,4] (.cons (.bcall .min (.cons (.var 1) (.cons (.var 2) (.nil)))) (.cons (.bcall .max (.cons (.var 1) (.cons (.var 2) (.nil)))) (.nil))),.ifs (.or (.cmp .Lt (.var 3) (.attr (.var 0) 2)) (.cmp .Gt (.var 4) (.attr (.var 0) 3))) [.raise (Str.ofString "args-out-of-range") (.cons (.var 1) (.cons (.var 2) (.nil)))] [],.ret (.tup (.cons (.var 3) (.cons (.var 4) (.nil))))]
noncomputable def m_tell_ahead:List S:=[.forL [3] true (.listOf (.attr (.var 0) 4)) [.dead]]
noncomputable def m_tell_behind:List S:=[.ex (.meth (.var 0) 17 (.cons (.bool true) (.nil))),.forL [4] true (.listOf (.attr (.var 0) 4)) [.dead]]
noncomputable def m_text_out:List S:=[.ifs (.cmp .IsNot (.attr (.var 0) 5) (.none)) [.dead] [],.asg 3 (.meth (.attr (.var 0) 6) 7 (.cons (.bin .sub (.var 1) (.int 1)) (.cons (.bin .sub (.var 2) (.int 1)) (.nil)))),.asgA (.var 0) 3 (.bin .sub (.attr (.var 0) 3) (.bin .sub (.var 2) (.var 1))),.ifs (.cmp .Gt (.attr (.var 0) 7) (.var 1)) [.asgA (.var 0) 7 (.bcall .max (.cons (.var 1) (.cons (.bin .sub (.attr (.var 0) 7) (.bin .sub (.var 2) (.var 1))) (.nil))))] [],.ret (.var 3)]
noncomputable def m_text_in:List S:=[.ifs (.cmp .IsNot (.attr (.var 0) 5) (.none)) [.dead] [],.ex (.meth (.attr (.var 0) 6) 6 (.cons (.bin .sub (.var 1) (.int 1)) (.cons (.var 2) (.nil)))),.asgA (.var 0) 3 (.bin .add (.attr (.var 0) 3) (.bcall .len (.cons (.var 2) (.nil)))),.ifs (.cmp .Gt (.attr (.var 0) 7) (.var 1)) [.asgA (.var 0) 7 (.bin .add (.attr (.var 0) 7) (.bcall .len (.cons (.var 2) (.nil))))] []]
noncomputable def m_hung_out:List S:=[.ifs (.cmp .IsNot (.attr (.var 0) 8) (.none)) [.dead] [],.ifs (.cmp .IsNot (.attr (.var 0) 9) (.none)) [.dead] []]
noncomputable def m_hung_in:List S:=[.ifs (.cmp .IsNot (.attr (.var 0) 8) (.none)) [.dead] [],.ifs (.cmp .IsNot (.attr (.var 0) 9) (.none)) [.dead] []]
noncomputable def m_put_in:List S:=[.ex (.call 10 (.cons (.var 0) (.nil))),.ex (.call 12 (.cons (.var 0) (.cons (.var 1) (.cons (.var 1) (.nil))))),.ifs (.cmp .Eq (.bcall .len (.cons (.var 2) (.nil))) (.int 0)) [.ret0] [],.ex (.call 11 (.cons (.var 0) (.cons (.bcall .len (.cons (.var 2) (.nil))) (.nil)))),.ex (.call 13 (.cons (.var 0) (.cons (.var 1) (.cons (.var 1) (.nil))))),.ex (.call 16 (.cons (.var 0) (.cons (.var 1) (.cons (.var 2) (.nil))))),.ifs (.var 4) [.asgA (.var 0) 7 (.bin .add (.var 1) (.bcall .len (.cons (.var 2) (.nil))))] [],.ex (.meth (.attr (.var 0) 10) 10 (.cons (.var 1) (.cons (.bin .add (.var 1) (.bcall .len (.cons (.var 2) (.nil)))) (.cons (.var 3) (.nil))))),.ex (.call 18 (.cons (.var 0) (.cons (.var 1) (.cons (.bcall .len (.cons (.var 2) (.nil))) (.cons (.var 3) (.nil)))))),.ex (.call 14 (.cons (.var 0) (.cons (.var 1) (.cons (.bin .add (.var 1) (.bcall .len (.cons (.var 2) (.nil)))) (.cons (.int 0) (.nil))))))]
noncomputable def m_insert_at:List S:=[.ex (.call 19 (.cons (.var 0) (.cons (.var 1) (.cons (.var 2) (.cons (.var 3) (.cons (.bool false) (.nil)))))))]
noncomputable def m_insert:List S:=[.ex (.call 19 (.cons (.var 0) (.cons (.attr (.var 0) 7) (.cons (.var 1) (.cons (.var 2) (.cons (.bool true) (.nil)))))))]
noncomputable def m_delete:List S:=[.ex (.call 10 (.cons (.var 0) (.nil))),.asgT [3,4] (.call 12 (.cons (.var 0) (.cons (.var 1) (.cons (.var 2) (.nil))))),.ifs (.cmp .Eq (.var 3) (.var 4)) [.ret (.lst (.nil))] [],.ex (.call 13 (.cons (.var 0) (.cons (.var 3) (.cons (.var 4) (.nil))))),.asg 5 (.call 15 (.cons (.var 0) (.cons (.var 3) (.cons (.var 4) (.nil))))),.ex (.meth (.attr (.var 0) 10) 11 (.cons (.var 3) (.cons (.var 4) (.nil)))),.ex (.call 17 (.cons (.var 0) (.cons (.var 3) (.cons (.var 4) (.nil))))),.ex (.call 14 (.cons (.var 0) (.cons (.var 3) (.cons (.var 3) (.cons (.bin .sub (.var 4) (.var 3)) (.nil)))))),.ret (.var 5)]
noncomputable def m_replace:List S:=[.ex (.call 10 (.cons (.var 0) (.nil))),.asgT [5,6] (.call 12 (.cons (.var 0) (.cons (.var 1) (.cons (.var 2) (.nil))))),.ifs (.cmp .Eq (.var 5) (.var 6)) [.ex (.call 20 (.cons (.var 0) (.cons (.var 5) (.cons (.var 3) (.nil))))),.ret (.lst (.nil))] [],.ifs (.cmp .Eq (.bcall .len (.cons (.var 3) (.nil))) (.int 0)) [.ret (.call 22 (.cons (.var 0) (.cons (.var 5) (.cons (.var 6) (.nil)))))] [],.ex (.call 11 (.cons (.var 0) (.cons (.bin .sub (.bcall .len (.cons (.var 3) (.nil))) (.bin .sub (.var 6) (.var 5))) (.nil)))),.asg 7 (.attr (.var 0) 7),.ex (.call 13 (.cons (.var 0) (.cons (.var 5) (.cons (.var 6) (.nil))))),.asg 8 (.call 15 (.cons (.var 0) (.cons (.var 5) (.cons (.var 6) (.nil))))),.ex (.call 16 (.cons (.var 0) (.cons (.var 5) (.cons (.var 3) (.nil))))),.ifs (.cmp .GtE (.var 7) (.var 6)) [.asgA (.var 0) 7 (.bin .sub (.bin .add (.var 7) (.bcall .len (.cons (.var 3) (.nil)))) (.bin .sub (.var 6) (.var 5)))] [],.ex (.meth (.attr (.var 0) 10) 12 (.cons (.var 5) (.cons (.var 6) (.cons (.bcall .len (.cons (.var 3) (.nil))) (.nil))))),.ex (.call 18 (.cons (.var 0) (.cons (.var 6) (.cons (.bcall .len (.cons (.var 3) (.nil))) (.cons (.bool true) (.nil)))))),.ex (.call 17 (.cons (.var 0) (.cons (.var 5) (.cons (.var 6) (.nil))))),.ifs (.cmp .IsNot (.var 4) (.none)) [.dead] [],.ex (.call 14 (.cons (.var 0) (.cons (.var 5) (.cons (.bin .add (.var 5) (.bcall .len (.cons (.var 3) (.nil)))) (.cons (.bin .sub (.var 6) (.var 5)) (.nil)))))),.ret (.var 8)]
noncomputable def m_line_start:List S:=[.asg 2 (.var 1),.whl (.and (.cmp .Gt (.var 2) (.meth (.var 0) 13 (.nil))) (.cmp .NotEq (.meth (.var 0) 15 (.cons (.bin .sub (.var 2) (.int 1)) (.nil))) (.glb 1))) [.asg 2 (.bin .sub (.var 2) (.int 1))],.ret (.var 2)]
noncomputable def m_line_end:List S:=[.asg 2 (.var 1),.whl (.and (.cmp .Lt (.var 2) (.meth (.var 0) 14 (.nil))) (.cmp .NotEq (.meth (.var 0) 15 (.cons (.var 2) (.nil))) (.glb 1))) [.asg 2 (.bin .add (.var 2) (.int 1))],.ret (.var 2)]
noncomputable def m_column_behind:List S:=[.ret (.ite (.cmp .Eq (.var 1) (.glb 2)) (.bin .mul (.bin .add (.bin .fdiv (.var 0) (.var 2)) (.int 1)) (.var 2)) (.bin .add (.var 0) (.int 1)))]
noncomputable def m_column_at:List S:=[.asg 3 (.int 0),.forL [4] true (.slcTo (.var 0) (.var 1)) [.asg 3 (.call 26 (.cons (.var 3) (.cons (.var 4) (.cons (.var 2) (.nil)))))],.ret (.var 3)]
noncomputable def m_downcase:List S:=[.ifs (.or (.cmp2 .LtE .LtE (.int 65) (.var 0) (.int 90)) (.and (.cmp2 .LtE .LtE (.int 192) (.var 0) (.int 222)) (.cmp .NotEq (.var 0) (.int 215)))) [.ret (.bin .add (.var 0) (.int 32))] [],.ret (.var 0)]
noncomputable def m_fold:List S:=[.ret (.call 28 (.cons (.var 0) (.nil)))]
noncomputable def nm_downcased:List (Str × NameKind):=[(Str.ofString "codes",.«local»)]
noncomputable def m_downcased:List S:=[.ret (.compL [] [none,none,none] [1] (.var 0) (.call 28 (.cons (.var 1) (.nil))))]
noncomputable def m_rows_between:List S:=[.asg 1 (.lst (.nil)),.asg 2 (.int 0),.forR 3 (.int 0) (.bcall .len (.cons (.var 0) (.nil))) [.ifs (.cmp .Eq (.idx (.var 0) (.var 3)) (.glb 5)) [.ex (.append (.var 1) (.tup (.cons (.var 2) (.cons (.var 3) (.nil))))),.asg 2 (.bin .add (.var 3) (.int 1))] []],.ifs (.cmp .Lt (.var 2) (.bcall .len (.cons (.var 0) (.nil)))) [.ex (.append (.var 1) (.tup (.cons (.var 2) (.cons (.bcall .len (.cons (.var 0) (.nil))) (.nil)))))] [],.ret (.frz 1)]
noncomputable def m_is_gap:List S:=[.ret (.or (.cmp .Eq (.idx (.var 0) (.var 1)) (.glb 3)) (.cmp .Eq (.idx (.var 0) (.var 1)) (.glb 4)))]
noncomputable def m_fields_between:List S:=[.asg 3 (.lst (.nil)),.asg 4 (.var 1),.whl (.cmp .Lt (.var 4) (.var 2)) [.whl (.and (.cmp .Lt (.var 4) (.var 2)) (.call 32 (.cons (.var 0) (.cons (.var 4) (.nil))))) [.asg 4 (.bin .add (.var 4) (.int 1))],.asg 5 (.var 4),.whl (.and (.cmp .Lt (.var 4) (.var 2)) (.not (.call 32 (.cons (.var 0) (.cons (.var 4) (.nil)))))) [.asg 4 (.bin .add (.var 4) (.int 1))],.ifs (.cmp .Gt (.var 4) (.var 5)) [.ex (.append (.var 3) (.tup (.cons (.var 5) (.cons (.var 4) (.nil)))))] []],.ret (.frz 3)]
noncomputable def m_field_at:List S:=[.asg 4 (.call 33 (.cons (.var 0) (.cons (.var 1) (.cons (.var 2) (.nil))))),.asg 5 (.ite (.cmp .Gt (.var 3) (.int 0)) (.bin .sub (.var 3) (.int 1)) (.bin .add (.bcall .len (.cons (.var 4) (.nil))) (.var 3))),.ret (.ite (.cmp2 .LtE .Lt (.int 0) (.var 5) (.bcall .len (.cons (.var 4) (.nil)))) (.idx (.var 4) (.var 5)) (.none))]
noncomputable def m_number_at:List S:=[.asg 3 (.var 1),.asg 4 (.and (.cmp .Lt (.var 3) (.var 2)) (.cmp .Eq (.idx (.var 0) (.var 3)) (.glb 6))),.ifs (.var 4) [.asg 3 (.bin .add (.var 3) (.int 1))] [],.asg 5 (.int 0),.whl (.and (.cmp .Lt (.var 3) (.var 2)) (.cmp2 .LtE .LtE (.glb 7) (.idx (.var 0) (.var 3)) (.glb 8))) [.asg 5 (.bin .sub (.bin .add (.bin .mul (.int 10) (.var 5)) (.idx (.var 0) (.var 3))) (.glb 7)),.asg 3 (.bin .add (.var 3) (.int 1))],.ret (.ite (.var 4) (.bin .sub (.int 0) (.var 5)) (.var 5))]
noncomputable def m_paragraphs_between:List S:=[.asg 1 (.lst (.nil)),.forL [2,3] false (.call 31 (.cons (.var 0) (.nil))) [.ifs (.and (.cmp .Lt (.var 2) (.var 3)) (.cmp .Gt (.bcall .len (.cons (.call 33 (.cons (.var 0) (.cons (.var 2) (.cons (.var 3) (.nil))))) (.nil))) (.int 0))) [.ifs (.and (.cmp .Gt (.bcall .len (.cons (.var 1) (.nil))) (.int 0)) (.cmp .Eq (.idx (.idx (.var 1) (.bin .sub (.bcall .len (.cons (.var 1) (.nil))) (.int 1))) (.int 1)) (.bin .sub (.var 2) (.int 1)))) [.asg 2 (.idx (.pop (.var 1)) (.int 0))] [],.ex (.append (.var 1) (.tup (.cons (.var 2) (.cons (.var 3) (.nil)))))] []],.ret (.frz 1)]
noncomputable def nm_ordered:List (Str × NameKind):=[(Str.ofString "records",.«local»),(Str.ofString "is_reversed",.«local»),(Str.ofString "sorted",.globalImplicit),(Str.ofString "record_key",.globalImplicit)]
noncomputable def m_ordered:List S:=[.ret (.sortedK (.var 0) 38 (.var 1))]
noncomputable def m_record_key:List S:=[.ret (.idx (.var 0) (.int 2))]
noncomputable def m_put_in_order:List S:=[.asg 3 (.call 37 (.cons (.var 1) (.cons (.var 2) (.nil)))),.asg 4 (.lst (.nil)),.asg 5 (.int 0),.forR 6 (.int 0) (.bcall .len (.cons (.var 1) (.nil))) [.asgT [7,8,9] (.idx (.var 1) (.var 6)),.ex (.extend (.var 4) (.slc (.var 0) (.var 5) (.var 7))),.ex (.extend (.var 4) (.slc (.var 0) (.idx (.idx (.var 3) (.var 6)) (.int 0)) (.idx (.idx (.var 3) (.var 6)) (.int 1)))),.asg 5 (.var 8)],.ret (.bin .add (.var 4) (.slcFrom (.var 0) (.var 5)))]
noncomputable def m_row_records:List S:=[.asg 2 (.lst (.nil)),.forL [3,4] false (.call 31 (.cons (.var 0) (.nil))) [.asg 5 (.slc (.var 0) (.var 3) (.var 4)),.ex (.append (.var 2) (.tup (.cons (.var 3) (.cons (.var 4) (.cons (.ite (.var 1) (.call 30 (.cons (.var 5) (.nil))) (.var 5)) (.nil))))))],.ret (.frz 2)]
noncomputable def m_paragraph_records:List S:=[.asg 2 (.lst (.nil)),.forL [3,4] false (.call 36 (.cons (.var 0) (.nil))) [.asg 5 (.slc (.var 0) (.var 3) (.var 4)),.ex (.append (.var 2) (.tup (.cons (.var 3) (.cons (.var 4) (.cons (.ite (.var 1) (.call 30 (.cons (.var 5) (.nil))) (.var 5)) (.nil))))))],.ret (.frz 2)]
noncomputable def m_field_records:List S:=[.asg 3 (.lst (.nil)),.forL [4,5] false (.call 31 (.cons (.var 0) (.nil))) [.asg 6 (.call 34 (.cons (.var 0) (.cons (.var 4) (.cons (.var 5) (.cons (.var 1) (.nil)))))),.ifs (.cmp .Is (.var 6) (.none)) [.ret (.none)] [],.asg 7 (.slc (.var 0) (.idx (.var 6) (.int 0)) (.idx (.var 6) (.int 1))),.ex (.append (.var 3) (.tup (.cons (.var 4) (.cons (.var 5) (.cons (.ite (.var 2) (.call 30 (.cons (.var 7) (.nil))) (.var 7)) (.nil))))))],.ret (.frz 3)]
noncomputable def m_number_records:List S:=[.asg 2 (.lst (.nil)),.forL [3,4] false (.call 31 (.cons (.var 0) (.nil))) [.asg 5 (.call 34 (.cons (.var 0) (.cons (.var 3) (.cons (.var 4) (.cons (.var 1) (.nil)))))),.ifs (.cmp .Is (.var 5) (.none)) [.ret (.none)] [],.ex (.append (.var 2) (.tup (.cons (.var 3) (.cons (.var 4) (.cons (.call 35 (.cons (.var 0) (.cons (.idx (.var 5) (.int 0)) (.cons (.idx (.var 5) (.int 1)) (.nil))))) (.nil))))))],.ret (.frz 2)]
noncomputable def m_column_records:List S:=[.asg 4 (.lst (.nil)),.forL [5,6] false (.call 31 (.cons (.var 0) (.nil))) [.asg 7 (.slc (.var 0) (.bcall .min (.cons (.bin .add (.var 5) (.var 1)) (.cons (.var 6) (.nil)))) (.bcall .min (.cons (.bin .add (.var 5) (.var 2)) (.cons (.var 6) (.nil))))),.ex (.append (.var 4) (.tup (.cons (.var 5) (.cons (.var 6) (.cons (.ite (.var 3) (.call 30 (.cons (.var 7) (.nil))) (.var 7)) (.nil))))))],.ret (.frz 4)]
noncomputable def m_rows_turned:List S:=[.asg 1 (.call 31 (.cons (.var 0) (.nil))),.asg 2 (.lst (.nil)),.asg 3 (.int 0),.forR 4 (.int 0) (.bcall .len (.cons (.var 1) (.nil))) [.asgT [5,6] (.idx (.var 1) (.var 4)),.asg 7 (.idx (.var 1) (.bin .sub (.bin .sub (.bcall .len (.cons (.var 1) (.nil))) (.int 1)) (.var 4))),.ex (.extend (.var 2) (.slc (.var 0) (.var 3) (.var 5))),.ex (.extend (.var 2) (.slc (.var 0) (.idx (.var 7) (.int 0)) (.idx (.var 7) (.int 1)))),.asg 3 (.var 6)],.ret (.bin .add (.var 2) (.slcFrom (.var 0) (.var 3)))]
noncomputable def nm_without_doubles:List (Str × NameKind):=[(Str.ofString "codes",.cell),(Str.ofString "is_last_kept",.«local»),(Str.ofString "is_next_only",.«local»),(Str.ofString "rows",.«local»),(Str.ofString "start",.«local»),(Str.ofString "end",.«local»),(Str.ofString "texts",.«local»),(Str.ofString "order",.«local»),(Str.ofString "gone",.«local»),(Str.ofString "known",.«local»),(Str.ofString "place",.«local»),(Str.ofString "found",.«local»),(Str.ofString "rows_between",.globalImplicit),(Str.ofString "list",.globalImplicit),(Str.ofString "range",.globalImplicit),(Str.ofString "len",.globalImplicit)]
noncomputable def m_without_doubles:List S:=[.asg 3 (.call 31 (.cons (.var 0) (.nil))),.asg 6 (.compL [] [none,none,none,some 0] [1,2] (.var 3) (.slc (.var 3) (.var 1) (.var 2))),.asg 7 (.listR (.bcall .len (.cons (.var 3) (.nil)))),.ifs (.var 1) [.asg 7 (.rev (.var 7))] [],.asg 8 (.dict),.asg 9 (.lst (.nil)),.forL [10] true (.var 7) [.ifs (.cmp .In (.idx (.var 6) (.var 10)) (.var 9)) [.setI (.var 8) (.var 10) (.bool true)] [.ifs (.var 2) [.asg 9 (.lst (.cons (.idx (.var 6) (.var 10)) (.nil)))] [.ex (.append (.var 9) (.idx (.var 6) (.var 10)))]]],.asg 11 (.lst (.nil)),.forR 10 (.int 0) (.bcall .len (.cons (.var 3) (.nil))) [.ifs (.cmp .NotIn (.var 10) (.var 8)) [.asgT [4,5] (.idx (.var 3) (.var 10)),.ex (.extend (.var 11) (.slc (.var 0) (.var 4) (.bin .add (.var 5) (.int 1))))] []],.ret (.tup (.cons (.frz 11) (.cons (.bcall .len (.cons (.var 8) (.nil))) (.nil))))]
noncomputable def m_put_ordered:List S:=[.ifs (.cmp .NotEq (.meth (.var 0) 3 (.cons (.var 1) (.cons (.var 2) (.nil)))) (.var 3)) [.ex (.call 23 (.cons (.var 0) (.cons (.var 1) (.cons (.var 2) (.cons (.var 3) (.nil))))))] []]
noncomputable def m_sort_rows:List S:=[.asgT [5,6] (.call 12 (.cons (.var 0) (.cons (.var 1) (.cons (.var 2) (.nil))))),.asg 7 (.meth (.var 0) 3 (.cons (.var 5) (.cons (.var 6) (.nil)))),.ex (.call 47 (.cons (.var 0) (.cons (.var 5) (.cons (.var 6) (.cons (.call 39 (.cons (.var 7) (.cons (.call 40 (.cons (.var 7) (.cons (.var 4) (.nil)))) (.cons (.var 3) (.nil))))) (.nil))))))]
noncomputable def m_sort_paragraphs:List S:=[.asgT [5,6] (.call 12 (.cons (.var 0) (.cons (.var 1) (.cons (.var 2) (.nil))))),.asg 7 (.meth (.var 0) 3 (.cons (.var 5) (.cons (.var 6) (.nil)))),.ex (.call 47 (.cons (.var 0) (.cons (.var 5) (.cons (.var 6) (.cons (.call 39 (.cons (.var 7) (.cons (.call 41 (.cons (.var 7) (.cons (.var 4) (.nil)))) (.cons (.var 3) (.nil))))) (.nil))))))]
noncomputable def m_need_records:List S:=[.ifs (.cmp .Is (.var 0) (.none)) [.raise (Str.ofString "error") (.cons (.str (Str.ofString "Line has too few fields")) (.nil))] [],.ret (.var 0)]
noncomputable def m_need_field:List S:=[.ifs (.cmp .Eq (.var 0) (.int 0)) [.raise (Str.ofString "error") (.cons (.str (Str.ofString "Requires nonzero field number")) (.nil))] []]
noncomputable def m_sort_fields:List S:=[.asgT [5,6] (.call 12 (.cons (.var 0) (.cons (.var 1) (.cons (.var 2) (.nil))))),.ex (.call 51 (.cons (.var 3) (.nil))),.asg 7 (.meth (.var 0) 3 (.cons (.var 5) (.cons (.var 6) (.nil)))),.ex (.call 47 (.cons (.var 0) (.cons (.var 5) (.cons (.var 6) (.cons (.call 39 (.cons (.var 7) (.cons (.call 50 (.cons (.call 42 (.cons (.var 7) (.cons (.var 3) (.cons (.var 4) (.nil))))) (.nil))) (.cons (.bool false) (.nil))))) (.nil))))))]
noncomputable def m_sort_number_fields:List S:=[.asgT [4,5] (.call 12 (.cons (.var 0) (.cons (.var 1) (.cons (.var 2) (.nil))))),.ex (.call 51 (.cons (.var 3) (.nil))),.asg 6 (.meth (.var 0) 3 (.cons (.var 4) (.cons (.var 5) (.nil)))),.ex (.call 47 (.cons (.var 0) (.cons (.var 4) (.cons (.var 5) (.cons (.call 39 (.cons (.var 6) (.cons (.call 50 (.cons (.call 43 (.cons (.var 6) (.cons (.var 3) (.nil)))) (.nil))) (.cons (.bool false) (.nil))))) (.nil))))))]
noncomputable def m_sort_columns:List S:=[.asgT [6,7] (.call 12 (.cons (.var 0) (.cons (.var 1) (.cons (.var 2) (.nil))))),.asgX [8,9] (.cons (.call 24 (.cons (.var 0) (.cons (.var 6) (.nil)))) (.cons (.call 25 (.cons (.var 0) (.cons (.var 7) (.nil)))) (.nil))),.asg 10 (.meth (.var 0) 3 (.cons (.var 8) (.cons (.var 9) (.nil)))),.ifs (.cmp .In (.int 9) (.var 10)) [.raise (Str.ofString "error") (.cons (.str (Str.ofString "sort-columns does not work with tabs -- use M-x untabify")) (.nil))] [],.asg 11 (.call 27 (.cons (.meth (.var 0) 3 (.cons (.var 8) (.cons (.var 6) (.nil)))) (.cons (.bin .sub (.var 6) (.var 8)) (.cons (.var 5) (.nil))))),.asg 12 (.call 24 (.cons (.var 0) (.cons (.var 7) (.nil)))),.asg 13 (.call 27 (.cons (.meth (.var 0) 3 (.cons (.var 12) (.cons (.var 7) (.nil)))) (.cons (.bin .sub (.var 7) (.var 12)) (.cons (.var 5) (.nil))))),.asg 14 (.call 44 (.cons (.var 10) (.cons (.bcall .min (.cons (.var 11) (.cons (.var 13) (.nil)))) (.cons (.bcall .max (.cons (.var 11) (.cons (.var 13) (.nil)))) (.cons (.var 4) (.nil)))))),.ex (.call 47 (.cons (.var 0) (.cons (.var 8) (.cons (.var 9) (.cons (.call 39 (.cons (.var 10) (.cons (.var 14) (.cons (.var 3) (.nil))))) (.nil))))))]
noncomputable def m_reverse_region:List S:=[.asgT [3,4] (.call 12 (.cons (.var 0) (.cons (.var 1) (.cons (.var 2) (.nil))))),.ifs (.and (.cmp .Gt (.var 3) (.attr (.var 0) 2)) (.cmp .NotEq (.meth (.var 0) 15 (.cons (.bin .sub (.var 3) (.int 1)) (.nil))) (.glb 9))) [.asg 3 (.bcall .min (.cons (.bin .add (.call 25 (.cons (.var 0) (.cons (.var 3) (.nil)))) (.int 1)) (.cons (.var 4) (.nil))))] [],.ifs (.and (.cmp .Lt (.var 4) (.attr (.var 0) 3)) (.cmp .NotEq (.meth (.var 0) 15 (.cons (.var 4) (.nil))) (.glb 9))) [.asg 4 (.bcall .max (.cons (.call 24 (.cons (.var 0) (.cons (.var 4) (.nil)))) (.cons (.var 3) (.nil))))] [],.ex (.call 47 (.cons (.var 0) (.cons (.var 3) (.cons (.var 4) (.cons (.call 45 (.cons (.meth (.var 0) 3 (.cons (.var 3) (.cons (.var 4) (.nil)))) (.nil))) (.nil))))))]
noncomputable def m_delete_double_rows:List S:=[.asgT [5,6] (.call 12 (.cons (.var 0) (.cons (.var 1) (.cons (.var 2) (.nil))))),.asgT [7,8] (.call 46 (.cons (.meth (.var 0) 3 (.cons (.var 5) (.cons (.var 6) (.nil)))) (.cons (.var 3) (.cons (.var 4) (.nil))))),.ex (.call 47 (.cons (.var 0) (.cons (.var 5) (.cons (.var 6) (.cons (.var 7) (.nil)))))),.ret (.var 8)]
noncomputable def m_GapText___init__:List S:=[.asgA (.var 0) 20 (.var 2),.asgA (.var 0) 21 (.bin .add (.listOf (.var 1)) (.bin .mul (.lst (.cons (.int 0) (.nil))) (.var 2))),.asgA (.var 0) 22 (.bcall .len (.cons (.var 1) (.nil))),.asgA (.var 0) 23 (.bin .add (.bcall .len (.cons (.var 1) (.nil))) (.var 2))]
noncomputable def m_GapText_size:List S:=[.ret (.bin .add (.bin .sub (.bcall .len (.cons (.attr (.var 0) 21) (.nil))) (.attr (.var 0) 23)) (.attr (.var 0) 22))]
noncomputable def m_GapText_code:List S:=[.ifs (.cmp .Lt (.var 1) (.attr (.var 0) 22)) [.ret (.idx (.attr (.var 0) 21) (.var 1))] [],.ret (.idx (.attr (.var 0) 21) (.bin .add (.bin .sub (.var 1) (.attr (.var 0) 22)) (.attr (.var 0) 23)))]
noncomputable def m_GapText_codes:List S:=[.asg 3 (.bin .sub (.attr (.var 0) 23) (.attr (.var 0) 22)),.ifs (.cmp .LtE (.var 2) (.attr (.var 0) 22)) [.ret (.slc (.attr (.var 0) 21) (.var 1) (.var 2))] [],.ifs (.cmp .GtE (.var 1) (.attr (.var 0) 22)) [.ret (.slc (.attr (.var 0) 21) (.bin .add (.var 1) (.var 3)) (.bin .add (.var 2) (.var 3)))] [],.ret (.bin .add (.slc (.attr (.var 0) 21) (.var 1) (.attr (.var 0) 22)) (.slc (.attr (.var 0) 21) (.attr (.var 0) 23) (.bin .add (.var 2) (.var 3))))]
noncomputable def m_GapText_move_gap:List S:=[.ifs (.cmp .Lt (.var 1) (.attr (.var 0) 22)) [.asg 2 (.slc (.attr (.var 0) 21) (.var 1) (.attr (.var 0) 22)),.setSl (.attr (.var 0) 21) (.bin .sub (.attr (.var 0) 23) (.bcall .len (.cons (.var 2) (.nil)))) (.attr (.var 0) 23) (.var 2),.asgA (.var 0) 23 (.bin .sub (.attr (.var 0) 23) (.bcall .len (.cons (.var 2) (.nil))))] [.asg 2 (.slc (.attr (.var 0) 21) (.attr (.var 0) 23) (.bin .sub (.bin .add (.attr (.var 0) 23) (.var 1)) (.attr (.var 0) 22))),.setSl (.attr (.var 0) 21) (.attr (.var 0) 22) (.bin .add (.attr (.var 0) 22) (.bcall .len (.cons (.var 2) (.nil)))) (.var 2),.asgA (.var 0) 23 (.bin .add (.attr (.var 0) 23) (.bcall .len (.cons (.var 2) (.nil))))],.asgA (.var 0) 22 (.var 1)]
noncomputable def m_GapText_widen_gap:List S:=[.asg 2 (.bin .sub (.var 1) (.bin .sub (.attr (.var 0) 23) (.attr (.var 0) 22))),.ifs (.cmp .Gt (.var 2) (.int 0)) [.setSl (.attr (.var 0) 21) (.attr (.var 0) 23) (.attr (.var 0) 23) (.bin .mul (.lst (.cons (.int 0) (.nil))) (.bin .add (.var 2) (.attr (.var 0) 20))),.asgA (.var 0) 23 (.bin .add (.bin .add (.attr (.var 0) 23) (.var 2)) (.attr (.var 0) 20))] []]
noncomputable def m_GapText_insert:List S:=[.ex (.meth (.var 0) 5 (.cons (.bcall .len (.cons (.var 2) (.nil))) (.nil))),.ex (.meth (.var 0) 4 (.cons (.var 1) (.nil))),.setSl (.attr (.var 0) 21) (.var 1) (.bin .add (.var 1) (.bcall .len (.cons (.var 2) (.nil)))) (.var 2),.asgA (.var 0) 22 (.bin .add (.var 1) (.bcall .len (.cons (.var 2) (.nil))))]
noncomputable def m_GapText_delete:List S:=[.asg 3 (.meth (.var 0) 3 (.cons (.var 1) (.cons (.var 2) (.nil)))),.ifs (.cmp .Lt (.var 2) (.attr (.var 0) 22)) [.ex (.meth (.var 0) 4 (.cons (.var 2) (.nil)))] [],.ifs (.cmp .Gt (.var 1) (.attr (.var 0) 22)) [.ex (.meth (.var 0) 4 (.cons (.var 1) (.nil)))] [],.asgA (.var 0) 23 (.bin .sub (.bin .add (.attr (.var 0) 23) (.var 2)) (.attr (.var 0) 22)),.asgA (.var 0) 22 (.var 1),.ret (.var 3)]
noncomputable def m_Marker___init__:List S:=[.asgA (.var 0) 19 (.var 1),.asgA (.var 0) 24 (.var 2),.asgA (.var 0) 25 (.none),.asgA (.var 0) 26 (.int 0)]
noncomputable def m_Markers___init__:List S:=[.asgA (.var 0) 27 (.dict)]
noncomputable def m_Markers_numbers:List S:=[.ret (.sortedD (.attr (.var 0) 27))]
noncomputable def m_Markers_put:List S:=[.setI (.attr (.var 0) 27) (.attr (.var 1) 19) (.var 1),.asgA (.var 1) 26 (.var 2)]
noncomputable def m_Markers_inserted:List S:=[.forL [4] true (.meth (.var 0) 8 (.nil)) [.asg 5 (.idx (.attr (.var 0) 27) (.var 4)),.ifs (.or (.cmp .Gt (.attr (.var 5) 26) (.var 1)) (.and (.cmp .Eq (.attr (.var 5) 26) (.var 1)) (.or (.var 3) (.attr (.var 5) 24)))) [.asgA (.var 5) 26 (.bin .sub (.bin .add (.attr (.var 5) 26) (.var 2)) (.var 1))] []]]
noncomputable def m_Markers_deleted:List S:=[.forL [3] true (.meth (.var 0) 8 (.nil)) [.asg 4 (.idx (.attr (.var 0) 27) (.var 3)),.ifs (.cmp .Gt (.attr (.var 4) 26) (.var 2)) [.asgA (.var 4) 26 (.bin .sub (.attr (.var 4) 26) (.bin .sub (.var 2) (.var 1)))] [.ifs (.cmp .Gt (.attr (.var 4) 26) (.var 1)) [.asgA (.var 4) 26 (.var 1)] []]]]
noncomputable def m_Markers_replaced:List S:=[.forL [4] true (.meth (.var 0) 8 (.nil)) [.asg 5 (.idx (.attr (.var 0) 27) (.var 4)),.ifs (.cmp .GtE (.attr (.var 5) 26) (.var 2)) [.asgA (.var 5) 26 (.bin .sub (.bin .add (.attr (.var 5) 26) (.var 3)) (.bin .sub (.var 2) (.var 1)))] [.ifs (.cmp .Gt (.attr (.var 5) 26) (.var 1)) [.asgA (.var 5) 26 (.var 1)] []]]]
noncomputable def m_Buffer___init__:List S:=[.asgA (.var 0) 19 (.var 1),.asgA (.var 0) 1 (.var 2),.asgA (.var 0) 6 (.call 57 (.cons (.lst (.nil)) (.cons (.var 3) (.nil)))),.asgA (.var 0) 10 (.call 59 (.nil)),.asgA (.var 0) 7 (.int 1),.asgA (.var 0) 2 (.int 1),.asgA (.var 0) 3 (.int 1),.asgA (.var 0) 11 (.none),.asgA (.var 0) 12 (.bool true),.asgA (.var 0) 0 (.bool false),.asgA (.var 0) 13 (.int 1),.asgA (.var 0) 14 (.int 1),.asgA (.var 0) 15 (.int 1),.asgA (.var 0) 4 (.lst (.nil)),.asgA (.var 0) 5 (.none),.asgA (.var 0) 8 (.none),.asgA (.var 0) 9 (.none),.asgA (.var 0) 16 (.none),.asgA (.var 0) 17 (.none),.asgA (.var 0) 18 (.none)]
noncomputable def m_Buffer_begin:List S:=[.ret (.attr (.var 0) 2)]
noncomputable def m_Buffer_end:List S:=[.ret (.attr (.var 0) 3)]
noncomputable def m_Buffer_size:List S:=[.ret (.meth (.attr (.var 0) 6) 1 (.nil))]
noncomputable def m_Buffer_code_at:List S:=[.ifs (.or (.cmp .Lt (.var 1) (.attr (.var 0) 2)) (.cmp .GtE (.var 1) (.attr (.var 0) 3))) [.ret (.neg 1)] [],.ret (.meth (.attr (.var 0) 6) 2 (.cons (.bin .sub (.var 1) (.int 1)) (.nil)))]
noncomputable def m_Buffer_codes:List S:=[.ret (.meth (.attr (.var 0) 6) 3 (.cons (.bin .sub (.var 1) (.int 1)) (.cons (.bin .sub (.var 2) (.int 1)) (.nil))))]
noncomputable def m_Buffer_goto:List S:=[.asgA (.var 0) 7 (.bcall .min (.cons (.bcall .max (.cons (.var 1) (.cons (.attr (.var 0) 2) (.nil)))) (.cons (.attr (.var 0) 3) (.nil)))),.ret (.attr (.var 0) 7)]
noncomputable def m_Buffer_touch:List S:=[.asgA (.var 0) 13 (.bin .add (.attr (.var 0) 13) (.int 1)),.ifs (.var 1) [.asgA (.var 0) 14 (.attr (.var 0) 13)] []]
noncomputable def m_Literal___init__:List S:=[.asgA (.var 0) 28 (.var 1),.asgA (.var 0) 29 (.var 2)]
noncomputable def m_Literal_fits:List S:=[.forR 3 (.int 0) (.bcall .len (.cons (.attr (.var 0) 28) (.nil))) [.asg 4 (.meth (.var 1) 15 (.cons (.bin .add (.var 2) (.var 3)) (.nil))),.ifs (.and (.cmp .NotEq (.var 4) (.idx (.attr (.var 0) 28) (.var 3))) (.not (.and (.attr (.var 0) 29) (.cmp .Eq (.call 29 (.cons (.var 4) (.nil))) (.call 29 (.cons (.idx (.attr (.var 0) 28) (.var 3)) (.nil))))))) [.ret (.bool false)] []],.ret (.bool true)]
noncomputable def m_Literal_next:List S:=[.forR 4 (.var 2) (.bin .add (.bin .sub (.var 3) (.bcall .len (.cons (.attr (.var 0) 28) (.nil)))) (.int 1)) [.ifs (.meth (.var 0) 18 (.cons (.var 1) (.cons (.var 4) (.nil)))) [.ret (.tup (.cons (.var 4) (.cons (.bin .add (.var 4) (.bcall .len (.cons (.attr (.var 0) 28) (.nil)))) (.nil))))] []],.ret (.none)]
noncomputable def m_how_many:List S:=[.asgT [4,5] (.call 12 (.cons (.var 0) (.cons (.var 2) (.cons (.var 3) (.nil))))),.asg 6 (.int 0),.asg 7 (.meth (.var 1) 19 (.cons (.var 0) (.cons (.var 4) (.cons (.var 5) (.nil))))),.whl (.cmp .IsNot (.var 7) (.none)) [.asg 6 (.bin .add (.var 6) (.int 1)),.asg 8 (.ite (.cmp .Eq (.idx (.var 7) (.int 0)) (.idx (.var 7) (.int 1))) (.bin .add (.idx (.var 7) (.int 1)) (.int 1)) (.idx (.var 7) (.int 1))),.asg 7 (.ite (.cmp .LtE (.var 8) (.var 5)) (.meth (.var 1) 19 (.cons (.var 0) (.cons (.var 8) (.cons (.var 5) (.nil))))) (.none))],.ret (.var 6)]
noncomputable def m_row_matches:List S:=[.asg 4 (.meth (.var 1) 19 (.cons (.var 0) (.cons (.var 2) (.cons (.attr (.var 0) 3) (.nil))))),.ret (.and (.cmp .IsNot (.var 4) (.none)) (.or (.cmp .Lt (.idx (.var 4) (.int 0)) (.var 3)) (.cmp .Eq (.idx (.var 4) (.int 0)) (.var 2))))]
noncomputable def m_rows_by:List S:=[.asgT [5,6] (.call 12 (.cons (.var 0) (.cons (.var 2) (.cons (.var 3) (.nil))))),.asg 7 (.ite (.cmp .Eq (.var 5) (.call 24 (.cons (.var 0) (.cons (.var 5) (.nil))))) (.var 5) (.bin .add (.call 25 (.cons (.var 0) (.cons (.var 5) (.nil)))) (.int 1))),.asg 8 (.bin .sub (.attr (.var 0) 3) (.var 6)),.asg 9 (.int 0),.whl (.cmp .Lt (.var 7) (.bin .sub (.attr (.var 0) 3) (.var 8))) [.asg 10 (.call 25 (.cons (.var 0) (.cons (.var 7) (.nil)))),.asg 11 (.bcall .min (.cons (.bin .add (.var 10) (.int 1)) (.cons (.attr (.var 0) 3) (.nil)))),.ifs (.cmp .Gt (.var 11) (.bin .sub (.attr (.var 0) 3) (.var 8))) [.ret (.var 9)] [],.ifs (.cmp .Eq (.call 63 (.cons (.var 0) (.cons (.var 1) (.cons (.var 7) (.cons (.var 10) (.nil)))))) (.var 4)) [.asg 7 (.var 11)] [.ex (.call 22 (.cons (.var 0) (.cons (.var 7) (.cons (.var 11) (.nil))))),.asg 9 (.bin .add (.var 9) (.int 1))]],.ret (.var 9)]
noncomputable def m_keep_lines:List S:=[.ret (.call 64 (.cons (.var 0) (.cons (.var 1) (.cons (.var 2) (.cons (.var 3) (.cons (.bool true) (.nil)))))))]
noncomputable def m_flush_lines:List S:=[.ret (.call 64 (.cons (.var 0) (.cons (.var 1) (.cons (.var 2) (.cons (.var 3) (.cons (.bool false) (.nil)))))))]
noncomputable def nm_narrow:List (Str × NameKind):=[(Str.ofString "buffer",.«local»),(Str.ofString "start",.«local»),(Str.ofString "end",.«local»),(Str.ofString "low",.«local»),(Str.ofString "high",.«local»),(Str.ofString "min",.globalImplicit),(Str.ofString "max",.globalImplicit),(Str.ofString "LispSignal",.globalImplicit)]
noncomputable def m_narrow:List S:=[.asgX [3,4] (.cons (.bcall .min (.cons (.var 1) (.cons (.var 2) (.nil)))) (.cons (.bcall .max (.cons (.var 1) (.cons (.var 2) (.nil)))) (.nil))),.ifs (.or (.cmp .Lt (.var 3) (.int 1)) (.cmp .Gt (.var 4) (.bin .add (.meth (.var 0) 1 (.nil)) (.int 1)))) [.raise (Str.ofString "args-out-of-range") (.cons (.var 1) (.cons (.var 2) (.nil)))] [],.asgAA (.var 0) 2 (.var 0) 3 (.var 3) (.var 4),.ex (.meth (.var 0) 16 (.cons (.attr (.var 0) 7) (.nil)))]
noncomputable def m_set_marker:List S:=[.ifs (.and (.cmp .IsNot (.attr (.var 0) 25) (.none)) (.cmp .IsNot (.attr (.var 0) 25) (.var 1))) [.dead] [],.asgA (.var 0) 25 (.var 1),.ifs (.cmp .Is (.var 1) (.none)) [.asgA (.var 0) 26 (.int 0)] [.ex (.meth (.attr (.var 1) 10) 9 (.cons (.var 0) (.cons (.bcall .min (.cons (.bcall .max (.cons (.var 2) (.cons (.int 1) (.nil)))) (.cons (.bin .add (.meth (.var 1) 1 (.nil)) (.int 1)) (.nil)))) (.nil))))]]
noncomputable def m__law_draw:List S:=[.ret (.ite (.cmp .NotEq (.var 0) (.lst (.nil))) (.bin .mod (.pop0 (.var 0)) (.var 1)) (.int 0))]
noncomputable def nm__law_buffer:List (Str × NameKind):=[(Str.ofString "codes",.«local»),(Str.ofString "places",.«local»),(Str.ofString "buffer",.«local»),(Str.ofString "some",.«local»),(Str.ofString "number",.«local»),(Str.ofString "place",.«local»),(Str.ofString "Buffer",.globalImplicit),(Str.ofString "insert",.globalImplicit),(Str.ofString "enumerate",.globalImplicit),(Str.ofString "Marker",.globalImplicit),(Str.ofString "set_marker",.globalImplicit)]
noncomputable def m__law_buffer:List S:=[.asgX [2,3] (.cons (.call 60 (.cons (.int 1) (.cons (.str (Str.ofString "a")) (.nil)))) (.cons (.lst (.nil)) (.nil))),.ex (.call 21 (.cons (.var 2) (.cons (.var 0) (.nil)))),.forE 4 5 (.var 1) [.ex (.append (.var 3) (.call 58 (.cons (.bin .add (.var 4) (.int 1)) (.cons (.cmp .Eq (.bin .mod (.var 4) (.int 2)) (.int 1)) (.nil))))),.ex (.call 68 (.cons (.idx (.var 3) (.neg 1)) (.cons (.var 2) (.cons (.var 5) (.nil)))))],.ret (.tup (.cons (.var 2) (.cons (.frz 3) (.nil))))]
noncomputable def m__law_done:List S:=[.asgX [4,5] (.cons (.bin .mod (.idx (.var 1) (.int 0)) (.int 10)) (.cons (.call 61 (.cons (.slcTo (.lst (.cons (.int 97) (.cons (.int 98) (.nil)))) (.bin .add (.int 1) (.bin .mod (.idx (.var 1) (.int 1)) (.int 2)))) (.cons (.cmp .Eq (.bin .mod (.idx (.var 1) (.int 2)) (.int 2)) (.int 1)) (.nil)))) (.nil))),.ifs (.cmp .Eq (.var 4) (.int 0)) [.ret (.call 48 (.cons (.var 0) (.cons (.var 2) (.cons (.var 3) (.cons (.cmp .Eq (.bin .mod (.idx (.var 1) (.int 1)) (.int 2)) (.int 1)) (.cons (.cmp .Eq (.bin .mod (.idx (.var 1) (.int 2)) (.int 2)) (.int 1)) (.nil)))))))] [],.ifs (.cmp .Eq (.var 4) (.int 1)) [.ret (.call 49 (.cons (.var 0) (.cons (.var 2) (.cons (.var 3) (.cons (.cmp .Eq (.bin .mod (.idx (.var 1) (.int 1)) (.int 2)) (.int 1)) (.cons (.cmp .Eq (.bin .mod (.idx (.var 1) (.int 2)) (.int 2)) (.int 1)) (.nil)))))))] [],.ifs (.cmp .Eq (.var 4) (.int 2)) [.ret (.call 52 (.cons (.var 0) (.cons (.var 2) (.cons (.var 3) (.cons (.bin .sub (.idx (.var 1) (.int 1)) (.int 3)) (.cons (.cmp .Eq (.bin .mod (.idx (.var 1) (.int 2)) (.int 2)) (.int 1)) (.nil)))))))] [],.ifs (.cmp .Eq (.var 4) (.int 3)) [.ret (.call 53 (.cons (.var 0) (.cons (.var 2) (.cons (.var 3) (.cons (.bin .sub (.idx (.var 1) (.int 1)) (.int 3)) (.nil))))))] [],.ifs (.cmp .Eq (.var 4) (.int 4)) [.ret (.call 54 (.cons (.var 0) (.cons (.var 2) (.cons (.var 3) (.cons (.cmp .Eq (.bin .mod (.idx (.var 1) (.int 1)) (.int 2)) (.int 1)) (.cons (.cmp .Eq (.bin .mod (.idx (.var 1) (.int 2)) (.int 2)) (.int 1)) (.cons (.int 8) (.nil))))))))] [],.ifs (.cmp .Eq (.var 4) (.int 5)) [.ret (.call 55 (.cons (.var 0) (.cons (.var 2) (.cons (.var 3) (.nil)))))] [],.ifs (.cmp .Eq (.var 4) (.int 6)) [.ret (.call 56 (.cons (.var 0) (.cons (.var 2) (.cons (.var 3) (.cons (.cmp .Eq (.bin .mod (.idx (.var 1) (.int 1)) (.int 2)) (.int 1)) (.cons (.cmp .Eq (.bin .mod (.idx (.var 1) (.int 2)) (.int 2)) (.int 1)) (.nil)))))))] [],.ifs (.cmp .Eq (.var 4) (.int 7)) [.ret (.call 62 (.cons (.var 0) (.cons (.var 5) (.cons (.var 2) (.cons (.var 3) (.nil))))))] [],.ret (.ite (.cmp .Eq (.var 4) (.int 8)) (.call 65 (.cons (.var 0) (.cons (.var 5) (.cons (.var 2) (.cons (.var 3) (.nil)))))) (.call 66 (.cons (.var 0) (.cons (.var 5) (.cons (.var 2) (.cons (.var 3) (.nil)))))))]
noncomputable def nm_law:List (Str × NameKind):=[(Str.ofString "script",.«local»),(Str.ofString "deck",.cell),(Str.ofString "signs",.cell),(Str.ofString "codes",.«local»),(Str.ofString "size",.«local»),(Str.ofString "low",.cell),(Str.ofString "high",.«local»),(Str.ofString "part",.cell),(Str.ofString "places",.«local»),(Str.ofString "one",.«local»),(Str.ofString "other",.«local»),(Str.ofString "choice",.«local»),(Str.ofString "alone",.«local»),(Str.ofString "own",.«local»),(Str.ofString "whole_here",.«local»),(Str.ofString "more_here",.«local»),(Str.ofString "due",.«local»),(Str.ofString "now",.«local»),(Str.ofString "range",.globalImplicit),(Str.ofString "_law_draw",.globalImplicit),(Str.ofString "len",.globalImplicit),(Str.ofString "_law_buffer",.globalImplicit),(Str.ofString "narrow",.globalImplicit),(Str.ofString "_law_outcome",.globalImplicit)]
noncomputable def m_law:List S:=[.asg 1 (.compL [] [none,none,none] [1] (.slcTo (.var 0) (.int 60)) (.bcall .abs (.cons (.var 1) (.nil)))),.asg 2 (.lst (.cons (.int 97) (.cons (.int 10) (.cons (.int 98) (.cons (.int 32) (.cons (.int 49) (.cons (.int 10) (.cons (.int 66) (.nil))))))))),.asg 3 (.compR [] [none,none,none,none,some 1,some 2] 1 (.bin .add (.int 4) (.call 69 (.cons (.var 1) (.cons (.int 20) (.nil))))) (.idx (.var 5) (.call 69 (.cons (.var 4) (.cons (.bcall .len (.cons (.var 5) (.nil))) (.nil)))))),.asg 4 (.bcall .len (.cons (.var 3) (.nil))),.asg 5 (.bin .add (.int 1) (.call 69 (.cons (.var 1) (.cons (.bin .add (.var 4) (.int 1)) (.nil))))),.asg 6 (.bin .add (.var 5) (.call 69 (.cons (.var 1) (.cons (.bin .sub (.bin .add (.var 4) (.int 2)) (.var 5)) (.nil))))),.asg 7 (.slc (.var 3) (.bin .sub (.var 5) (.int 1)) (.bin .sub (.var 6) (.int 1))),.asg 8 (.compR [] [none,none,none,none,some 1,some 7] 1 (.int 3) (.bin .add (.int 1) (.call 69 (.cons (.var 4) (.cons (.bin .add (.bcall .len (.cons (.var 5) (.nil))) (.int 1)) (.nil)))))),.asgX [9,10,11] (.cons (.idx (.var 8) (.int 0)) (.cons (.idx (.var 8) (.int 1)) (.cons (.lst (.cons (.call 69 (.cons (.var 1) (.cons (.int 99) (.nil)))) (.cons (.call 69 (.cons (.var 1) (.cons (.int 7) (.nil)))) (.cons (.call 69 (.cons (.var 1) (.cons (.int 7) (.nil)))) (.nil))))) (.nil)))),.ifs (.cmp .Eq (.call 69 (.cons (.var 1) (.cons (.int 8) (.nil)))) (.int 7)) [.asg 10 (.bin .add (.bcall .len (.cons (.var 7) (.nil))) (.int 2))] [],.asgT [12,13] (.call 70 (.cons (.var 7) (.cons (.var 8) (.nil)))),.asgT [14,15] (.call 70 (.cons (.var 3) (.cons (.compL [] [none,none,some 5] [1] (.var 8) (.bin .sub (.bin .add (.var 1) (.var 2)) (.int 1))) (.nil)))),.ex (.call 67 (.cons (.var 14) (.cons (.var 5) (.cons (.var 6) (.nil))))),.asgAA (.var 12) 7 (.var 14) 7 (.idx (.var 8) (.int 2)) (.bin .sub (.bin .add (.idx (.var 8) (.int 2)) (.var 5)) (.int 1)),.asg 16 (.call 72 (.cons (.var 12) (.cons (.var 11) (.cons (.var 9) (.cons (.var 10) (.nil)))))),.ifs (.cmp .NotEq (.call 72 (.cons (.var 14) (.cons (.var 11) (.cons (.bin .sub (.bin .add (.var 9) (.var 5)) (.int 1)) (.cons (.bin .sub (.bin .add (.var 10) (.var 5)) (.int 1)) (.nil)))))) (.var 16)) [.ret (.bool false)] [],.asg 17 (.bin .add (.bin .add (.slcTo (.var 3) (.bin .sub (.var 5) (.int 1))) (.meth (.var 12) 3 (.cons (.int 1) (.cons (.bin .add (.meth (.var 12) 1 (.nil)) (.int 1)) (.nil))))) (.slcFrom (.var 3) (.bin .sub (.var 6) (.int 1)))),.ifs (.or (.cmp .NotEq (.meth (.var 14) 3 (.cons (.int 1) (.cons (.bin .add (.meth (.var 14) 1 (.nil)) (.int 1)) (.nil)))) (.var 17)) (.cmp .NotEq (.lst (.cons (.attr (.var 14) 2) (.cons (.attr (.var 14) 3) (.nil)))) (.lst (.cons (.var 5) (.cons (.bin .add (.var 5) (.meth (.var 12) 1 (.nil))) (.nil)))))) [.ret (.bool false)] [],.ifs (.cmp .NotEq (.attr (.var 14) 7) (.bin .sub (.bin .add (.attr (.var 12) 7) (.var 5)) (.int 1))) [.ret (.bool false)] [],.ret (.cmp .Eq (.compL [] [none,none] [1] (.var 15) (.attr (.var 1) 26)) (.compL [] [none,none,some 5] [1] (.var 13) (.bin .sub (.bin .add (.attr (.var 1) 26) (.var 2)) (.int 1))))]
end Mine
namespace Mine
noncomputable def HasDef (g:G) (f:Addr) (b:List S) (np:Nat) (dv:List V) (k:Nat):Prop:=∀ n args Q X H,args.length+dv.length=np →
 wSs g n b (startLoc (args++dv) k) (fun u0 H=>Q .none H) Q X H→CallC g (n+1) f args Q X H
noncomputable def HasCls (g:G) (C fI:Addr):Prop:=∀ n args Q X H,(∀ a,H a=none→CallC g n fI (.ref a::args) (fun v H'=>v=.none∧Q (.ref a) H') X (put H a (.inst C [])))→CallW g (n+1) C args Q X H
structure Row where
 f:Addr
 i:Nat
 j:Nat
 m:List S
 np:Nat
 dv:List V
 k:Nat
 hs:List (Nat × Nat)
noncomputable def dR:Row:=⟨0,0,0,[],0,[.none],0,[]⟩
noncomputable def ROWS:List Row:=[⟨48,5,0,m_need_writable,1,[],2,[(73,1)]⟩,
 ⟨55,6,0,m_need_room,2,[],4,[(0,2),(73,3)]⟩,
 ⟨62,7,0,m_reached,3,[],8,[(901,5),(902,6),(73,7)]⟩,
 ⟨69,8,0,m_tell_ahead,3,[],5,[(905,4)]⟩,
 ⟨76,9,0,m_tell_behind,4,[],6,[(905,5)]⟩,
 ⟨83,10,0,m_text_out,3,[],5,[(902,4)]⟩,
 ⟨90,11,0,m_text_in,3,[],4,[(900,3)]⟩,
 ⟨97,12,0,m_hung_out,3,[],3,[]⟩,
 ⟨104,13,0,m_hung_in,4,[],4,[]⟩,
 ⟨111,14,0,m_put_in,5,[],13,[(10,5),(12,6),(900,7),(11,8),(13,9),(16,10),(18,11),(14,12)]⟩,
 ⟨119,15,0,m_insert_at,4,[.bool false],5,[(19,4)]⟩,
 ⟨127,16,0,m_insert,3,[.bool false],4,[(19,3)]⟩,
 ⟨134,17,0,m_delete,3,[],12,[(10,6),(12,7),(13,8),(15,9),(17,10),(14,11)]⟩,
 ⟨142,18,0,m_replace,5,[.none],21,[(10,9),(12,10),(20,11),(900,12),(22,13),(11,14),(13,15),(15,16),(16,17),(18,18),(17,19),(14,20)]⟩,
 ⟨149,21,0,m_line_start,2,[],4,[(1,3)]⟩,
 ⟨156,22,0,m_line_end,2,[],4,[(1,3)]⟩,
 ⟨163,25,0,m_column_behind,3,[],4,[(2,3)]⟩,
 ⟨170,26,0,m_column_at,3,[],6,[(26,5)]⟩,
 ⟨177,28,0,m_downcase,1,[],1,[]⟩,
 ⟨184,29,0,m_fold,1,[],2,[(28,1)]⟩,
 ⟨189,30,0,m_downcased,1,[],1,[]⟩,
 ⟨196,38,0,m_rows_between,1,[],7,[(906,4),(900,5),(5,6)]⟩,
 ⟨203,39,0,m_is_gap,2,[],4,[(3,2),(4,3)]⟩,
 ⟨210,40,0,m_fields_between,3,[],7,[(32,6)]⟩,
 ⟨217,41,0,m_field_at,4,[],8,[(33,6),(900,7)]⟩,
 ⟨224,42,0,m_number_at,3,[],9,[(6,6),(7,7),(8,8)]⟩,
 ⟨231,43,0,m_paragraphs_between,1,[],7,[(31,4),(900,5),(33,6)]⟩,
 ⟨238,44,0,m_ordered,2,[],4,[]⟩,
 ⟨245,45,0,m_record_key,1,[],1,[]⟩,
 ⟨252,46,0,m_put_in_order,3,[],13,[(37,10),(906,11),(900,12)]⟩,
 ⟨259,47,0,m_row_records,2,[],8,[(31,6),(30,7)]⟩,
 ⟨266,48,0,m_paragraph_records,2,[],8,[(36,6),(30,7)]⟩,
 ⟨273,49,0,m_field_records,3,[],11,[(31,8),(34,9),(30,10)]⟩,
 ⟨280,50,0,m_number_records,2,[],9,[(31,6),(34,7),(35,8)]⟩,
 ⟨287,51,0,m_column_records,4,[],11,[(31,8),(901,9),(30,10)]⟩,
 ⟨294,52,0,m_rows_turned,1,[],11,[(31,8),(906,9),(900,10)]⟩,
 ⟨306,56,0,m_put_ordered,4,[],5,[(23,4)]⟩,
 ⟨313,57,0,m_sort_rows,5,[],12,[(12,8),(47,9),(39,10),(40,11)]⟩,
 ⟨320,58,0,m_sort_paragraphs,5,[],12,[(12,8),(47,9),(39,10),(41,11)]⟩,
 ⟨327,59,0,m_need_records,1,[],2,[(73,1)]⟩,
 ⟨334,60,0,m_need_field,1,[],2,[(73,1)]⟩,
 ⟨341,61,0,m_sort_fields,5,[],14,[(12,8),(51,9),(47,10),(39,11),(50,12),(42,13)]⟩,
 ⟨348,62,0,m_sort_number_fields,4,[],13,[(12,7),(51,8),(47,9),(39,10),(50,11),(43,12)]⟩,
 ⟨355,63,0,m_sort_columns,6,[],25,[(12,15),(24,16),(25,17),(73,18),(27,19),(44,20),(901,21),(902,22),(47,23),(39,24)]⟩,
 ⟨362,64,0,m_reverse_region,3,[],13,[(12,5),(9,6),(901,7),(25,8),(902,9),(24,10),(47,11),(45,12)]⟩,
 ⟨369,65,0,m_delete_double_rows,5,[],12,[(12,9),(46,10),(47,11)]⟩,
 ⟨383,67,1,m_GapText___init__,3,[],5,[(905,3),(900,4)]⟩,
 ⟨390,67,2,m_GapText_size,1,[],2,[(900,1)]⟩,
 ⟨397,67,3,m_GapText_code,2,[],2,[]⟩,
 ⟨404,67,4,m_GapText_codes,3,[],4,[]⟩,
 ⟨411,67,5,m_GapText_move_gap,2,[],4,[(900,3)]⟩,
 ⟨418,67,6,m_GapText_widen_gap,2,[],3,[]⟩,
 ⟨425,67,7,m_GapText_insert,3,[],4,[(900,3)]⟩,
 ⟨432,67,8,m_GapText_delete,3,[],4,[]⟩,
 ⟨509,71,1,m_Marker___init__,3,[],3,[]⟩,
 ⟨549,72,1,m_Markers___init__,1,[],1,[]⟩,
 ⟨556,72,2,m_Markers_numbers,1,[],2,[(904,1)]⟩,
 ⟨563,72,3,m_Markers_put,3,[],3,[]⟩,
 ⟨584,72,6,m_Markers_inserted,4,[],6,[]⟩,
 ⟨591,72,7,m_Markers_deleted,3,[],5,[]⟩,
 ⟨598,72,8,m_Markers_replaced,4,[],6,[]⟩,
 ⟨620,74,1,m_Buffer___init__,4,[.int 8],6,[(57,4),(59,5)]⟩,
 ⟨641,74,4,m_Buffer_begin,1,[],1,[]⟩,
 ⟨648,74,5,m_Buffer_end,1,[],1,[]⟩,
 ⟨655,74,6,m_Buffer_size,1,[],1,[]⟩,
 ⟨662,74,7,m_Buffer_code_at,2,[],2,[]⟩,
 ⟨669,74,8,m_Buffer_codes,3,[],3,[]⟩,
 ⟨676,74,9,m_Buffer_goto,2,[],4,[(901,2),(902,3)]⟩,
 ⟨704,74,13,m_Buffer_touch,2,[],2,[]⟩,
 ⟨723,76,1,m_Literal___init__,3,[],3,[]⟩,
 ⟨730,76,2,m_Literal_fits,3,[],8,[(906,5),(900,6),(29,7)]⟩,
 ⟨737,76,3,m_Literal_next,4,[],7,[(906,5),(900,6)]⟩,
 ⟨772,77,0,m_how_many,4,[],10,[(12,9)]⟩,
 ⟨779,78,0,m_row_matches,4,[],5,[]⟩,
 ⟨786,79,0,m_rows_by,5,[],18,[(12,12),(24,13),(25,14),(901,15),(63,16),(22,17)]⟩,
 ⟨793,80,0,m_keep_lines,4,[],5,[(64,4)]⟩,
 ⟨800,81,0,m_flush_lines,4,[],5,[(64,4)]⟩,
 ⟨807,83,0,m_narrow,3,[],8,[]⟩,
 ⟨814,85,0,m_set_marker,3,[],5,[(901,3),(902,4)]⟩,
 ⟨821,87,0,m__law_draw,2,[],2,[]⟩,
 ⟨828,88,0,m__law_buffer,2,[],11,[]⟩,
 ⟨835,89,0,m__law_done,4,[],17,[(61,6),(48,7),(49,8),(52,9),(53,10),(54,11),(55,12),(56,13),(62,14),(65,15),(66,16)]⟩,
 ⟨35,2,1,m_LispSignal___init__,3,[],3,[]⟩]
inductive AllR (P:Row→Prop):List Row→Prop
 | nil:AllR P []
 | cons {r:Row} {rs:List Row} (h:P r) (t:AllR P rs):AllR P (r::rs)
theorem AllR.at {P:Row→Prop} {d:Row} (hd:P d) {l:List Row} (h:AllR P l):∀ i,P (gAt d l i):=by
 induction h with
 | nil=>exact fun i=>hd
 | cons h t ih=>exact fun i=>match i with
  | 0=>h
  | i+1=>ih i
noncomputable def Row.Has (g:G) (r:Row):Prop:=HasDef g r.f r.m r.np r.dv r.k
structure Defs (g:G):Prop where
 rows:∀ i,(gAt dR ROWS i).Has g
 without_doubles:HasDef g 299 m_without_doubles 3 [] 16
 cGap:HasCls g 456 383
 cMarker:HasCls g 533 509
 cMarkers:HasCls g 601 549
 cBuffer:HasCls g 707 620
 cLit:HasCls g 761 723
 outcome:∀ n args Q X H,args.length=4→wSs g n [.ret (.tup (.cons (.str (Str.ofString "told")) (.cons (.call 71 (.cons (.var 0) (.cons (.var 1) (.cons (.var 2) (.cons (.var 3) .nil))))) .nil)))] (startLoc args 7) (fun u0 u0=>False) Q (fun sym H'=>Q (.tup [.str (Str.ofString "refused"),.str sym]) H') H →
  CallC g (n+1) 842 args Q X H
 srt:∀ (ps:List (V × V × V)) (ks:Keys),(ps.map fun p=>p.2.2)=ks.vs→ps.length < 64→∀ b n Q H,NewL (sortedBy .none (ks.lt b) b (ps.map recOf)) Q H→SortW g n 245 (ps.map recOf) b Q H
section
variable {g:G}
theorem Defs.need_writable (D:Defs g):HasDef g 48 m_need_writable 1 [] 2:=D.rows 0
theorem Defs.need_room (D:Defs g):HasDef g 55 m_need_room 2 [] 4:=D.rows 1
theorem Defs.reached (D:Defs g):HasDef g 62 m_reached 3 [] 8:=D.rows 2
theorem Defs.tell_ahead (D:Defs g):HasDef g 69 m_tell_ahead 3 [] 5:=D.rows 3
theorem Defs.tell_behind (D:Defs g):HasDef g 76 m_tell_behind 4 [] 6:=D.rows 4
theorem Defs.text_out (D:Defs g):HasDef g 83 m_text_out 3 [] 5:=D.rows 5
theorem Defs.text_in (D:Defs g):HasDef g 90 m_text_in 3 [] 4:=D.rows 6
theorem Defs.hung_out (D:Defs g):HasDef g 97 m_hung_out 3 [] 3:=D.rows 7
theorem Defs.hung_in (D:Defs g):HasDef g 104 m_hung_in 4 [] 4:=D.rows 8
theorem Defs.put_in (D:Defs g):HasDef g 111 m_put_in 5 [] 13:=D.rows 9
theorem Defs.insert_at (D:Defs g):HasDef g 119 m_insert_at 4 [.bool false] 5:=D.rows 10
theorem Defs.insert (D:Defs g):HasDef g 127 m_insert 3 [.bool false] 4:=D.rows 11
theorem Defs.delete (D:Defs g):HasDef g 134 m_delete 3 [] 12:=D.rows 12
theorem Defs.replace (D:Defs g):HasDef g 142 m_replace 5 [.none] 21:=D.rows 13
theorem Defs.line_start (D:Defs g):HasDef g 149 m_line_start 2 [] 4:=D.rows 14
theorem Defs.line_end (D:Defs g):HasDef g 156 m_line_end 2 [] 4:=D.rows 15
theorem Defs.column_behind (D:Defs g):HasDef g 163 m_column_behind 3 [] 4:=D.rows 16
theorem Defs.column_at (D:Defs g):HasDef g 170 m_column_at 3 [] 6:=D.rows 17
theorem Defs.downcase (D:Defs g):HasDef g 177 m_downcase 1 [] 1:=D.rows 18
theorem Defs.fold (D:Defs g):HasDef g 184 m_fold 1 [] 2:=D.rows 19
theorem Defs.downcased (D:Defs g):HasDef g 189 m_downcased 1 [] 1:=D.rows 20
theorem Defs.rows_between (D:Defs g):HasDef g 196 m_rows_between 1 [] 7:=D.rows 21
theorem Defs.is_gap (D:Defs g):HasDef g 203 m_is_gap 2 [] 4:=D.rows 22
theorem Defs.fields_between (D:Defs g):HasDef g 210 m_fields_between 3 [] 7:=D.rows 23
theorem Defs.field_at (D:Defs g):HasDef g 217 m_field_at 4 [] 8:=D.rows 24
theorem Defs.number_at (D:Defs g):HasDef g 224 m_number_at 3 [] 9:=D.rows 25
theorem Defs.paragraphs_between (D:Defs g):HasDef g 231 m_paragraphs_between 1 [] 7:=D.rows 26
theorem Defs.ordered (D:Defs g):HasDef g 238 m_ordered 2 [] 4:=D.rows 27
theorem Defs.record_key (D:Defs g):HasDef g 245 m_record_key 1 [] 1:=D.rows 28
theorem Defs.put_in_order (D:Defs g):HasDef g 252 m_put_in_order 3 [] 13:=D.rows 29
theorem Defs.row_records (D:Defs g):HasDef g 259 m_row_records 2 [] 8:=D.rows 30
theorem Defs.paragraph_records (D:Defs g):HasDef g 266 m_paragraph_records 2 [] 8:=D.rows 31
theorem Defs.field_records (D:Defs g):HasDef g 273 m_field_records 3 [] 11:=D.rows 32
theorem Defs.number_records (D:Defs g):HasDef g 280 m_number_records 2 [] 9:=D.rows 33
theorem Defs.column_records (D:Defs g):HasDef g 287 m_column_records 4 [] 11:=D.rows 34
theorem Defs.rows_turned (D:Defs g):HasDef g 294 m_rows_turned 1 [] 11:=D.rows 35
theorem Defs.put_ordered (D:Defs g):HasDef g 306 m_put_ordered 4 [] 5:=D.rows 36
theorem Defs.sort_rows (D:Defs g):HasDef g 313 m_sort_rows 5 [] 12:=D.rows 37
theorem Defs.sort_paragraphs (D:Defs g):HasDef g 320 m_sort_paragraphs 5 [] 12:=D.rows 38
theorem Defs.need_records (D:Defs g):HasDef g 327 m_need_records 1 [] 2:=D.rows 39
theorem Defs.need_field (D:Defs g):HasDef g 334 m_need_field 1 [] 2:=D.rows 40
theorem Defs.sort_fields (D:Defs g):HasDef g 341 m_sort_fields 5 [] 14:=D.rows 41
theorem Defs.sort_number_fields (D:Defs g):HasDef g 348 m_sort_number_fields 4 [] 13:=D.rows 42
theorem Defs.sort_columns (D:Defs g):HasDef g 355 m_sort_columns 6 [] 25:=D.rows 43
theorem Defs.reverse_region (D:Defs g):HasDef g 362 m_reverse_region 3 [] 13:=D.rows 44
theorem Defs.delete_double_rows (D:Defs g):HasDef g 369 m_delete_double_rows 5 [] 12:=D.rows 45
theorem Defs.GapText_init (D:Defs g):HasDef g 383 m_GapText___init__ 3 [] 5:=D.rows 46
theorem Defs.GapText_size (D:Defs g):HasDef g 390 m_GapText_size 1 [] 2:=D.rows 47
theorem Defs.GapText_code (D:Defs g):HasDef g 397 m_GapText_code 2 [] 2:=D.rows 48
theorem Defs.GapText_codes (D:Defs g):HasDef g 404 m_GapText_codes 3 [] 4:=D.rows 49
theorem Defs.GapText_move_gap (D:Defs g):HasDef g 411 m_GapText_move_gap 2 [] 4:=D.rows 50
theorem Defs.GapText_widen_gap (D:Defs g):HasDef g 418 m_GapText_widen_gap 2 [] 3:=D.rows 51
theorem Defs.GapText_insert (D:Defs g):HasDef g 425 m_GapText_insert 3 [] 4:=D.rows 52
theorem Defs.GapText_delete (D:Defs g):HasDef g 432 m_GapText_delete 3 [] 4:=D.rows 53
theorem Defs.Marker_init (D:Defs g):HasDef g 509 m_Marker___init__ 3 [] 3:=D.rows 54
theorem Defs.Markers_init (D:Defs g):HasDef g 549 m_Markers___init__ 1 [] 1:=D.rows 55
theorem Defs.Markers_numbers (D:Defs g):HasDef g 556 m_Markers_numbers 1 [] 2:=D.rows 56
theorem Defs.Markers_put (D:Defs g):HasDef g 563 m_Markers_put 3 [] 3:=D.rows 57
theorem Defs.Markers_inserted (D:Defs g):HasDef g 584 m_Markers_inserted 4 [] 6:=D.rows 58
theorem Defs.Markers_deleted (D:Defs g):HasDef g 591 m_Markers_deleted 3 [] 5:=D.rows 59
theorem Defs.Markers_replaced (D:Defs g):HasDef g 598 m_Markers_replaced 4 [] 6:=D.rows 60
theorem Defs.Buffer_init (D:Defs g):HasDef g 620 m_Buffer___init__ 4 [.int 8] 6:=D.rows 61
theorem Defs.Buffer_begin (D:Defs g):HasDef g 641 m_Buffer_begin 1 [] 1:=D.rows 62
theorem Defs.Buffer_end (D:Defs g):HasDef g 648 m_Buffer_end 1 [] 1:=D.rows 63
theorem Defs.Buffer_size (D:Defs g):HasDef g 655 m_Buffer_size 1 [] 1:=D.rows 64
theorem Defs.Buffer_code_at (D:Defs g):HasDef g 662 m_Buffer_code_at 2 [] 2:=D.rows 65
theorem Defs.Buffer_codes (D:Defs g):HasDef g 669 m_Buffer_codes 3 [] 3:=D.rows 66
theorem Defs.Buffer_goto (D:Defs g):HasDef g 676 m_Buffer_goto 2 [] 4:=D.rows 67
theorem Defs.Buffer_touch (D:Defs g):HasDef g 704 m_Buffer_touch 2 [] 2:=D.rows 68
theorem Defs.Literal_init (D:Defs g):HasDef g 723 m_Literal___init__ 3 [] 3:=D.rows 69
theorem Defs.Literal_fits (D:Defs g):HasDef g 730 m_Literal_fits 3 [] 8:=D.rows 70
theorem Defs.Literal_next (D:Defs g):HasDef g 737 m_Literal_next 4 [] 7:=D.rows 71
theorem Defs.how_many (D:Defs g):HasDef g 772 m_how_many 4 [] 10:=D.rows 72
theorem Defs.row_matches (D:Defs g):HasDef g 779 m_row_matches 4 [] 5:=D.rows 73
theorem Defs.rows_by (D:Defs g):HasDef g 786 m_rows_by 5 [] 18:=D.rows 74
theorem Defs.keep_lines (D:Defs g):HasDef g 793 m_keep_lines 4 [] 5:=D.rows 75
theorem Defs.flush_lines (D:Defs g):HasDef g 800 m_flush_lines 4 [] 5:=D.rows 76
theorem Defs.narrow (D:Defs g):HasDef g 807 m_narrow 3 [] 8:=D.rows 77
theorem Defs.set_marker (D:Defs g):HasDef g 814 m_set_marker 3 [] 5:=D.rows 78
theorem Defs.law_draw (D:Defs g):HasDef g 821 m__law_draw 2 [] 2:=D.rows 79
theorem Defs.law_buffer (D:Defs g):HasDef g 828 m__law_buffer 2 [] 11:=D.rows 80
theorem Defs.law_done (D:Defs g):HasDef g 835 m__law_done 4 [] 17:=D.rows 81
end
theorem HasDef.w {g:G} {f:Addr} {b:List S} {np:Nat} {dv:List V} {k:Nat} (D:HasDef g f b np dv k) {n:Nat} {args:List V} {Q:QV} {X:QX} {H:Hp} (hl:args.length+dv.length=np)
  (w:wSs g n b (startLoc (args++dv) k) (fun u0 H=>Q .none H) Q X H):CallW g (n+1) f args Q X H:=(D n args Q X H hl w).w
theorem Gd.less {A:Around} {Fs:List Addr} {n n':Nat} (D:Gd A Fs n') (h:n≤n'):Gd A Fs n:=⟨D.frames,D.handled,by have:=D.depth;exact ln 0x1101f0b219000000143904731011b11310b21900000014390471101140 rfl h this,by have:=D.units;exact ln 0x1501f0b219000000643914731011b11310b21900000064391471101140 rfl h this⟩
theorem CallW.up {g:G} {n n':Nat} {f:Addr} {args:List V} {Q:QV} {X:QX} {H:Hp} (w:CallW g n f args Q X H) (h:n≤n'):CallW g n' f args Q X H:=
 ⟨fun A Fs s Z ys D I r=>w.go A Fs s Z ys (D.less h) I r⟩
theorem put_put {α:Type} (f:Addr→Option α) (a:Addr) (x y:α):put (put f a x) a y=put f a y:=by
 funext b;unfold put;split<;>rfl
theorem del_put {α:Type} {f:Addr→Option α} {a:Addr} {x:α} (h:f a=none):del (put f a x) a=f:=by
 funext b;unfold del put;by_cases q:b=a
 ·subst q;simp [h]
 ·simp [q]
theorem put_comm {α:Type} {f:Addr→Option α} {a b:Addr} {x y:α} (h:a≠b):put (put f a x) b y=put (put f b y) a x:=by
 funext c;unfold put;by_cases q:c=b
 ·subst q;simp [Ne.symm h]
 ·simp [q]
noncomputable def Det (g:G) (n:Nat) (f:Addr) (args:List V) (v:V):Prop:=∀ Q X H,Q v H→CallW g n f args Q X H
theorem Det.up {g:G} {n n':Nat} {f:Addr} {args:List V} {v:V} (w:Det g n f args v) (h:n≤n'):Det g n' f args v:=fun Q X H q=>(w Q X H q).up h
theorem br {c:Prop} [Decidable c] {P Q:Prop} (t:c→P) (f:¬c→Q):Br (decide c) P Q:=⟨fun h=>t (of_decide_eq_true h),fun h=>f (of_decide_eq_false h)⟩
theorem brb {b:Bool} {P Q:Prop} (t:b=true→P) (f:b=false→Q):Br b P Q:=⟨t,f⟩
theorem brT {P Q:Prop} (p:P):Br true P Q:=⟨fun u0=>p,fun h=>nomatch h⟩
theorem brF {P Q:Prop} (q:Q):Br false P Q:=⟨fun h=>(nomatch h),fun u0=>q⟩
theorem bool_br {b:Bool} {P Q:Prop} (h:if b then P else Q):Br b P Q:=⟨fun e=>by rw [e] at h;exact h,fun e=>by rw [e] at h;exact h⟩
noncomputable def atQ (C:Addr) (k:Nat) (fs:List (Nat × V)) (Q:QV) (H:Hp):Prop:=match fldOk C k FT,getF k fs with
 | true,some u=>Q u H
 | _,_=>False
noncomputable def saQ (C:Addr) (k:Nat) (fs:List (Nat × V)) (u:V) (N:Hp→Prop) (H:Hp) (a:Addr):Prop:=match fldOk C k FT,Nat.blt fs.length 100 with
 | true,true=>N (put H a (.inst C (setF k u fs)))
 | _,_=>False
noncomputable def meQ (C:Addr) (j:Nat) (P:Addr→Prop):Prop:=match methOf C j MT with
 | some f=>P f
 | none=>False
theorem at_ {H:Hp} {a C:Addr} {fs:List (Nat × V)} {k:Nat} {Q:QV} (h:H a=some (.inst C fs)) (q:atQ C k fs Q H):AtW a k Q H:=by
 unfold atQ at q
 split at q
 ·rename_i h1 h2;exact ⟨C,fs,h,h1,_,h2,q⟩
 ·exact q.elim
theorem sa_ {H:Hp} {a C:Addr} {fs:List (Nat × V)} {k:Nat} {u:V} {N:Hp→Prop} (h:H a=some (.inst C fs)) (q:saQ C k fs u N H a):SaW a k u H N:=by
 unfold saQ at q
 split at q
 ·rename_i h1 h2;exact ⟨C,fs,h,h1,Nat.le_of_ble_eq_true h2,q⟩
 ·exact q.elim
theorem me_ {H:Hp} {a C:Addr} {fs:List (Nat × V)} {j:Nat} {P:Addr→Prop} (h:H a=some (.inst C fs)) (q:meQ C j P):MeW a j H P:=by
 unfold meQ at q
 split at q
 ·rename_i h1;exact ⟨C,fs,h,_,h1,q⟩
 ·exact q.elim
noncomputable def Sub (H' H:Hp):Prop:=∀ a o,H' a=some o→H a=some o
theorem Sub.refl (H:Hp):Sub H H:=fun u0 u0 e=>e
theorem Sub.put {H' H:Hp} {a:Addr} {o:O} (h:Sub H' H) (ha:H' a=none):Sub H' (put H a o):=fun b x e=>by
 by_cases q:b=a
 ·subst q;rw [ha] at e;trivial
 ·rw [put_ne q];exact h b x e
theorem Inv.fewer {prog:Program} {w:World} {B:Heap} {Fs:List Addr} {Z:Zone} {H H':Hp} {h:Heap} (I:Inv prog w B Fs Z H h) (d:Sub H' H):Inv prog w B Fs Z H' h:=by
 have n:∀ a,H a=none→H' a=none:=fun a e=>by
  cases q:H' a with
  | none=>rfl
  | some o=>rw [d a o q] at e;assumption
 obtain ⟨b,z,f,δ,o1,o2,o3⟩:=I
 exact ⟨b,z,fun x hx=>(in_AA ((f x hx).1) (n _ (f x hx).2.1) ((f x hx).2.2)),δ,fun a o e=>o1 a o (d a o e),fun a a' C fs C' fs' e e'=>o2 a a' C fs C' fs' (d _ _ e) (d _ _ e'),fun a C fs e=>(in_AA ((o3 a C fs (d _ _ e)).1) (n _ (o3 a C fs (d _ _ e)).2.1) ((o3 a C fs (d _ _ e)).2.2))⟩
theorem CallW.drop {g:G} {n:Nat} {f:Addr} {args:List V} {Q:QV} {X:QX} {H:Hp} (w:CallW g n f args (fun v H'=>∃ H'',Sub H'' H'∧Q v H'') (fun s H'=>∃ H'',Sub H'' H'∧X s H'') H):CallW g n f args Q X H:=by
 refine ⟨fun A Fs s Z ys D I r=>wpAny_mono (w.go A Fs s Z ys D I r) (fun y s' h=>?_) fun e s' h=>?_⟩
 ·obtain ⟨v,Z',H',h1,h2,h3,H'',h4,h5⟩:=h
  exact ⟨v,Z',H'',h1,h2.fewer h4,h3,h5⟩
 ·obtain ⟨v,Z',H',h1,h2,h3,H'',h4,h5⟩:=h
  exact ⟨v,Z',H'',h1,h2.fewer h4,h3,h5⟩
theorem CallW.mono {g:G} {n:Nat} {f:Addr} {args:List V} {Q Q':QV} {X X':QX} {H:Hp} (w:CallW g n f args Q X H) (hq:∀ v H,Q v H→Q' v H) (hx:∀ v H,X v H→X' v H):CallW g n f args Q' X' H:=by
 refine ⟨fun A Fs s Z ys D I r=>wpAny_mono (w.go A Fs s Z ys D I r) (fun y s' h=>?_) fun e s' h=>?_⟩
 ·obtain ⟨v,Z',H',h1,h2,h3,h4⟩:=h
  exact ⟨v,Z',H',h1,h2,h3,hq _ _ h4⟩
 ·obtain ⟨v,Z',H',h1,h2,h3,h4⟩:=h
  exact ⟨v,Z',H',h1,h2,h3,hx _ _ h4⟩
end Mine
namespace Mine
theorem vints_get {cs:List Int} {k:Nat} {c:Int} (h:cs[k]?=some c):(vints cs)[k]?=some (.int c):=by
 unfold vints;rw [List.getElem?_map,h];rfl
theorem vints_len (cs:List Int):(vints cs).length=cs.length:=List.length_map ..
theorem ix {xs:List V} {k:Nat} {v:V} {P:V→Prop} (h:xs[k]?=some v) (q:P v):IxW xs (k:Int) P:=by
 have hk:k < xs.length:=by
  rcases Nat.lt_or_ge k xs.length with l | l
  ·exact l
  ·rw [List.getElem?_eq_none l] at h;trivial
 refine ⟨k,?_,v,h,q⟩
 unfold seqIndex?
 have h0:¬ ((k:Int) < 0):=ln 0x1f8c02601110 rfl
 have h1:(decide (0≤(k:Int))&&decide ((k:Int) < (xs.length:Int)))=true:=by simp;exact hk
 simp only [if_neg h0,h1,if_true,Int.toNat_natCast]
theorem cut_nat (xs:List V) (i j:Nat):cut xs (some (i:Int)) (some (j:Int))=(xs.drop i).take (j - i):=by
 have hi:kms_lo (some (i:Int)) xs.length=min i xs.length:=if_neg (t:=xs.length - (-(i:Int)).toNat) (e:=min (i:Int).toNat xs.length) (Int.not_lt.mpr (Int.natCast_nonneg i))
 have hj:kms_hi (some (j:Int)) xs.length=min j xs.length:=if_neg (t:=xs.length - (-(j:Int)).toNat) (e:=min (j:Int).toNat xs.length) (Int.not_lt.mpr (Int.natCast_nonneg j))
 unfold cut
 rw [hi,hj]
 rcases Nat.le_total i xs.length with h | h
 ·rw [Nat.min_eq_left h,List.take_eq_take_iff,List.length_drop,← Nat.sub_min_sub_right,Nat.min_assoc,Nat.min_self]
 ·rw [Nat.min_eq_right h,List.drop_eq_nil_of_le (Nat.le_refl _),List.drop_eq_nil_of_le h,List.take_nil,List.take_nil]
theorem vints_cut (cs:List Int) (i j:Option Int):∃ ds,cut (vints cs) i j=vints ds∧ds.length≤cs.length:=by
 refine ⟨(cs.drop (kms_lo i (vints cs).length)).take (kms_hi j (vints cs).length - kms_lo i (vints cs).length),?_,?_⟩
 ·unfold cut vints;rw [List.map_take,List.map_drop]
 ·simp;exact ln 0x1041f1b11211b01211b1101130 rfl (Nat.min_le_right _ _) (Nat.sub_le _ _)
theorem comp_pure {el:V→QV→Hp→Prop} {a:Addr} {H:Hp} {N:Hp→Prop} (f:V→V):∀ (xs acc:List V),(∀ x∈xs,∀ Q H,Q (f x) H→el x Q H)→acc.length+xs.length < 2 ^ 20→N (put H a (.list (acc++xs.map f)))→compW el a xs N (put H a (.list acc))
 | []=>@fun acc u0 u0 q=>by simpa [compW] using q
 | x::xs=>@fun acc h hl q=>by
  refine h x (.head _) _ _ ⟨acc,put_at,by simp at hl;exact ln 0x41f0b144010b00100000399121101120 rfl hl,?_⟩
  rw [put_put]
  refine comp_pure f xs (acc++[f x]) (fun y hy=>h y (.tail _ hy)) (by simp at hl ⊢;exact ln 0x41f0b001000003911912010b00100000399121101120 rfl hl) ?_
  simpa using q
noncomputable def bodyOf (l:List S) (i:Nat):List S:=match l[i]? with
 | some (.forL _ _ _ b)=>b
 | some (.forR _ _ _ b)=>b
 | some (.forE _ _ _ b)=>b
 | some (.whl _ b)=>b
 | some (.ifs _ b _)=>b
 | _=>[]
noncomputable def elseOf (l:List S) (i:Nat):List S:=match l[i]? with
 | some (.ifs _ _ b)=>b
 | _=>[]
noncomputable def condOf (l:List S) (i:Nat):E:=match l[i]? with
 | some (.whl c _)=>c
 | _=>.none
noncomputable abbrev LB (g:G) (k:Nat) (is:List Nat) (one:Bool) (b:List S) (R:QV):V→Loc→QN→Hp→Prop:=fun v m' N' H'=>takeIt is one v m' fun m''=>wSs g k b m'' N' R (fun u0 u0=>False) H'
noncomputable abbrev RB (g:G) (k:Nat) (i:Nat) (b:List S) (R:QV):V→Loc→QN→Hp→Prop:=fun v m' N' H'=>wSs g k b (m'.set i (some v)) N' R (fun u0 u0=>False) H'
noncomputable abbrev EB (g:G) (k:Nat) (i j:Nat) (b:List S) (R:QV):V→Loc→QN→Hp→Prop:=fun v m' N' H'=>match v with
    | .tup [u,w]=>wSs g k b ((m'.set i (some u)).set j (some w)) N' R (fun u0 u0=>False) H'
    | _=>False
noncomputable abbrev WB (g:G) (k:Nat) (c:E) (b:List S) (R:QV) (N:QN):QN→Loc→Hp→Prop:=fun P m H=>wE g k c m (fun x H1=>match x with
   | .bool t=>Br t (wSs g k b m P R (fun u0 u0=>False) H1) (N m H1)
   | _=>False) (fun u0 u0=>False) H
noncomputable def downR (c:Int):Int:=if (65≤c∧c≤90)∨((192≤c∧c≤222)∧c≠215) then c+32 else c
section
variable {g:G} (D:Defs g)
include D
theorem c_column_behind (c code:Int) (h0:0≤c) (h:c < 1000000):Det g 1 163 [.int c,.int code,.int 8] (.int (if code=9 then (c.fdiv 8+1)*8 else c+1)):=by
 intro Q X H q
 refine D.column_behind.w rfl ?_
 refine br (fun e=>?_) fun e=>?_
 ·rw [if_pos e] at q
  refine ⟨by decide,ln 0x21041f0bc84010c000f42403002c00601111 rfl h (Int.natAbs_of_nonneg h0),by decide,?_⟩
  have e8:c.fdiv 8=c / 8:=Int.fdiv_eq_ediv_of_nonneg _ (by decide)
  refine ⟨by rw [e8];exact Nat.lt_of_le_of_lt (nabs (N:=1000001) (Int.le_trans (by decide) (Int.add_nonneg (Int.ediv_nonneg h0 (by decide)) (by decide))) (Int.add_le_add_right (Int.le_trans (Int.ediv_le_self _ h0) (Int.le_of_lt h)) 1)) (by decide),by decide,q⟩
 ·rw [if_neg e] at q;exact q
theorem col_loop (row place:V):∀ (cs:List Int) (c:Nat) (cd:Option V),c+8*cs.length≤1000→∃ (c':Nat) (cd':Option V),∀ (R:QV) (N:QN) (H:Hp),
  N [some row,some place,some (.int 8),some (.int c'),cd',none] H→loopW (LB g 2 [4] true (bodyOf m_column_at 1) R) (vints cs) [some row,some place,some (.int 8),some (.int c),cd,none] N H:=by
 intro cs
 induction cs with
 | nil=>exact fun c cd u0=>(in_EE c cd (fun R N H q=>q))
 | cons x cs ih=>
  intro c cd hc
  simp only [List.length_cons] at hc
  refine el_EA (show ∃ d:Nat,(if x=9 then ((c:Int).fdiv 8+1)*8 else (c:Int)+1)=(d:Int)∧d≤c+8 from by
   have e8:(c:Int).fdiv 8=(c:Int) / 8:=Int.fdiv_eq_ediv_of_nonneg _ (by decide)
   rw [e8]
   split
   ·exact (in_EA ((c / 8+1)*8) (by rfl) (by rw [Nat.add_mul];exact Nat.add_le_add_right (Nat.div_mul_le_self c 8) _))
   ·exact (in_EA (c+1) (ln 0x41f2c691201912601110 rfl) (ln 0x1f1b9820191201110 rfl))) fun d hd1 hd2=>?_
  refine el_EE (ih d (some (.int x)) (ln 0x1041f1b000003e83908721011b000003e83908791221111b9821101130 rfl hc hd2)) fun c' cd' h=>?_
  refine (in_EE c' cd' (fun R N H q=>?_))
  refine c_column_behind D c x (ln 0x1f1c60102110 rfl) (ln 0x41f0c000f424036011b000003e8390879121101120 rfl hc) _ _ _ ?_
  rw [hd1]
  exact h R N H q
theorem c_column_at (cs:List Int) (hl:cs.length≤100) (p:Int):∃ c:Nat,Det g 4 170 [.lst (vints cs),.int p,.int 8] (.int c):=by
 refine el_EA (vints_cut cs none (some p)) fun ds e hd=>?_
 refine el_EE (col_loop D (.lst (vints cs)) (.int p) ds 0 none (ln 0x8201f1b000003e83908701021b000000643111b1101120 rfl hl hd)) fun c' cd' h=>?_
 refine ⟨c',fun Q X H q=>?_⟩
 refine D.column_at.w rfl ?_
 conv=>whnf
 rw [e]
 refine ⟨by rw [vints_len];exact ln 0x1041f1b184011b000000643111b1101120 rfl hl hd,.inl ?_⟩
 exact h _ _ _ q
theorem c_downcase (c:Int):Det g 1 177 [.int c] (.int (downR c)):=by
 intro Q X H q
 refine D.downcase.w rfl ?_
 unfold downR at q
 have no:¬((65≤c∧c≤90)∨((192≤c∧c≤222)∧c≠215))→Q (.int c) H:=fun h=>by rw [if_neg h] at q;exact q
 have two:∀ K:QV,((192≤c∧c≤222)∧c≠215→K (.bool true) H)→(¬((192≤c∧c≤222)∧c≠215)→K (.bool false) H)→wE g 0 (.and (.cmp2 .LtE .LtE (.int 192) (.var 0) (.int 222)) (.cmp .NotEq (.var 0) (.int 215))) (startLoc ([V.int c]++[]) 1) K X H:=fun K k1 k2=>by
  refine br (fun h3=>?_) fun h3=>brF (k2 (fun u60=>ln 0x41f9c00000000c031c00000000c03001 rfl h3 u60.1.1))
  refine br (fun h4=>?_) fun h4=>k2 (fun u60=>ln 0x41f9c000000de3001c000000de300001 rfl h4 u60.1.2)
  by_cases h5:c=215
  ·have:=k2 (fun u=>u.2 h5)
   rw [show false=!decide (c=215) by simp [h5]] at this;exact this
  ·have:=k1 ⟨⟨h3,h4⟩,h5⟩
   rw [show true=!decide (c=215) by simp [h5]] at this;exact this
 have two':=two (fun x H1=>match x with
   | V.bool b=>
    Br b
     (wSs g 0 [S.ret (E.bin Op2.add (E.var 0) (E.int 32))] (startLoc ([V.int c]++[]) 1)
      (fun m' H'=>wSs g 0 [S.ret (E.var 0)] m' (fun x H=>Q V.none H) Q X H') Q X H1)
     (wSs g 0 [] (startLoc ([V.int c]++[]) 1)
      (fun m' H'=>wSs g 0 [S.ret (E.var 0)] m' (fun x H=>Q V.none H) Q X H') Q X H1)
   | x=>False)
 refine br (fun h1=>?_) fun h1=>?_
 ·refine br (fun h2=>?_) fun h2=>?_
  ·rw [if_pos (.inl ⟨h1,h2⟩)] at q;exact brT q
  ·exact two' (fun h=>brT (by rw [if_pos (.inr h)] at q;exact q)) (fun h=>brF (no (fun u=>u.elim (fun v=>h2 v.2) h)))
 ·exact brF (two' (fun h=>brT (by rw [if_pos (.inr h)] at q;exact q)) (fun h=>brF (no (fun u60=>u60.elim (fun u50=>ln 0x41f9c000000004131c00000000413001 rfl h1 u50.1) fun u50=>ln 0x41f9c000000004131c00000000c03001 rfl h1 u50.1.1))))
theorem c_downcased (cs:List Int) (hl:cs.length≤1000):Det g 4 189 [.lst (vints cs)] (.lst (vints (cs.map downR))):=by
 intro Q X H q
 refine D.downcased.w rfl ?_
 intro a ha
 refine comp_pure (fun v=>match v with | .int c=>.int (downR c) | v=>v) (vints cs) [] (fun x hx Q' H' q'=>?_) (by simp [vints];exact ln 0x41f0b001000003011b000003e8301110 rfl hl) (.inr ⟨_,put_at,?_⟩)
 ·refine el_EA (List.mem_map.mp hx) fun c hc rf2=>?_;subst rf2
  exact c_downcase D c _ _ _ q'
 ·rw [del_put ha]
  simpa [vints,Function.comp_def] using q
end
end Mine
namespace Mine
noncomputable abbrev Pairs:=List (Nat × Nat)
noncomputable def rowsV (rows:Pairs):List V:=rows.map fun p=>.tup [.int p.1,.int p.2]
theorem rowsV_len (r:Pairs):(rowsV r).length=r.length:=List.length_map ..
theorem rowsV_snoc (r:Pairs) (s e:Nat):rowsV r++[.tup [.int s,.int e]]=rowsV (r++[(s,e)]):=by simp [rowsV]
noncomputable def Within (n:Nat) (rows:Pairs):Prop:=∀ p∈rows,p.1≤n∧p.2≤n
theorem Within.nil (n:Nat):Within n []:=fun u0 h=>nomatch h
theorem Within.snoc {n:Nat} {rows:Pairs} (h:Within n rows) {s e:Nat} (hs:s≤n) (he:e≤n):Within n (rows++[(s,e)]):=fun p hp=>by
 rcases List.mem_append.mp hp with q | q
 ·exact h p q
 ·rw [List.mem_singleton.mp q];exact ⟨hs,he⟩
noncomputable def vr (s n:Nat):List V:=(List.range' s n).map fun k:Nat=>V.int k
theorem vr_of (n:Nat):vints (rangeL 0 (n:Int))=vr 0 n:=by
 unfold vr vints rangeL
 rw [← List.range_eq_range',List.map_map]
 have:((n:Int) - 0).toNat=n:=ln 0x8417c1f2b11012ca02611601120 rfl (Int.toNat_of_nonneg (ln 0x1f1ca0260102110 rfl))
 rw [this]
 apply List.map_congr_left
 intro k _
 simp
theorem vr_succ (s n:Nat):vr s (n+1)=.int s::vr (s+1) n:=by unfold vr;rw [List.range'_succ];rfl
theorem get_int {cs:List Int} {k:Nat} (h:k < cs.length):∃ c,cs[k]?=some c:=⟨cs[k],List.getElem?_eq_getElem h⟩
noncomputable def gapB (cs:List Int) (k:Nat):Bool:=decide (cs[k]?=some 32∨cs[k]?=some 9)
section
variable {g:G} (D:Defs g)
include D
theorem rows_loop (cs:List Int) (hl:cs.length≤100):∀ (n s:Nat),s+n=cs.length→∀ (rows:Pairs) (st:Nat) (at_:Option V),rows.length≤st→st≤s→Within cs.length rows→∃ (rows':Pairs) (st':Nat) (at':Option V),rows'.length≤st'∧st'≤cs.length∧Within cs.length rows' ∧
  ∀ (R:QV) (N:QN) (a:Addr) (H:Hp),N [some (.lst (vints cs)),some (.ref a),some (.int st'),at',none,none,none] (put H a (.list (rowsV rows'))) →
   loopW (RB g 2 3 (bodyOf m_rows_between 2) R) (vr s n) [some (.lst (vints cs)),some (.ref a),some (.int st),at_,none,none,none] N (put H a (.list (rowsV rows))):=by
 intro n
 induction n with
 | zero=>exact fun s hs rows st at_ h1 h2 h3=>(in_EEEAAA rows st at_ h1 (ln 0x1841f1b21012b21902111b1101130 rfl hs h2) h3 (fun R N a H q=>q))
 | succ n ih=>
  intro s hs rows st at_ h1 h2 h3
  obtain ⟨c,hc⟩:=get_int (cs:=cs) (k:=s) (ln 0x841f0b21012b2199121101130 rfl hs)
  by_cases e:c=10
  ·refine el_EEEAAA (ih (s+1) (ln 0x8417c1f2b21911912012b2199121101130 rfl hs) (rows++[(st,s)]) (s+1) (some (.int s)) (by simp;exact Nat.le_trans (by assumption) (by assumption)) (ln 0x1f1b9120191201110 rfl) (h3.snoc (ln 0x1841f1b31012b31991221111b1101140 rfl hs h2) (ln 0x841f1b21012b2199121101130 rfl hs))) fun rows' st' at' b1 b2 b3 h=>?_
   refine (in_EEEAAA rows' st' at' b1 b2 b3 (fun R N a H q=>?_))
   rw [vr_succ]
   refine ix (vints_get hc) ?_
   refine br (fun u0=>?_) fun h=>absurd e h
   refine ⟨⟨_,put_at⟩,?_⟩
   refine ⟨by exact Nat.le_of_ble_eq_true rfl,_,put_at,by rw [rowsV_len];exact ln 0x1061041f0b144211b000000643412b41991231111b01211b1101150 rfl hl hs h1 h2,?_⟩
   rw [put_put,rowsV_snoc]
   exact h R N a H q
  ·refine el_EEEAAA (ih (s+1) (ln 0x8417c1f2b21911912012b2199121101130 rfl hs) rows st (some (.int s)) h1 (ln 0x41f1b91211011b1101120 rfl h2) h3) fun rows' st' at' b1 b2 b3 h=>?_
   refine (in_EEEAAA rows' st' at' b1 b2 b3 (fun R N a H q=>?_))
   rw [vr_succ]
   refine ix (vints_get hc) ?_
   refine br (fun h=>absurd h e) fun u0=>?_
   exact h R N a H q
theorem c_rows_between (cs:List Int) (hl:cs.length≤100):∃ rows:Pairs,rows.length≤cs.length∧Within cs.length rows∧Det g 4 196 [.lst (vints cs)] (.lst (rowsV rows)):=by
 refine el_EEEAAA (rows_loop D cs hl cs.length 0 (ln 0x41f2b0190102110 rfl) [] 0 none (by exact Nat.le_refl _) (by exact Nat.le_refl _) (.nil _)) fun rows' st' at' b1 b2 b3 h=>?_
 by_cases hst:st' < cs.length
 ·refine (in_EAA (rows'++[(st',cs.length)]) (by simp;exact ln 0x1041f1b11912211b01210b1101130 rfl b1 hst) (b3.snoc b2 (ln 0x1f1b0101110 rfl)) (fun Q X H q=>?_))
  refine D.rows_between.w rfl ?_
  refine ⟨by exact Nat.zero_le _,.inr fun a ha=>?_⟩
  refine (in_AA (by exact Nat.succ_pos _) (by rw [vints_len];exact ln 0x21041f0b3c4011b000000643112c611601120 rfl hl (Int.natAbs_of_nonneg (ln 0x1f1c60102110 rfl))) ?_)
  rw [vints_len,vr_of]
  refine h _ _ a H ?_
  refine br (fun u0=>?_) fun h=>absurd (by rw [vints_len];exact ln 0x41f0c6116010b1101120 rfl hst) h
  refine ⟨⟨_,put_at⟩,?_⟩
  refine ⟨by exact Nat.le_of_ble_eq_true rfl,_,put_at,by rw [rowsV_len];exact ln 0x41041f0b144211b000000643111b01210b1101130 rfl hl b1 hst,?_⟩
  rw [put_put,vints_len,rowsV_snoc]
  refine ⟨_,put_at,?_⟩
  rw [del_put ha];exact q
 ·refine (in_EAA rows' (ln 0x1041f1b11211b01211b1101130 rfl b1 b2) b3 (fun Q X H q=>?_))
  refine D.rows_between.w rfl ?_
  refine ⟨by exact Nat.zero_le _,.inr fun a ha=>?_⟩
  refine (in_AA (by exact Nat.succ_pos _) (by rw [vints_len];exact ln 0x21041f0b3c4011b000000643112c611601120 rfl hl (Int.natAbs_of_nonneg (ln 0x1f1c60102110 rfl))) ?_)
  rw [vints_len,vr_of]
  refine h _ _ a H ?_
  refine br (fun h=>absurd h (by rw [vints_len];exact ln 0x41f8c6116018b1101120 rfl hst)) fun u0=>?_
  refine ⟨_,put_at,?_⟩
  rw [del_put ha];exact q
theorem c_is_gap (cs:List Int) (k:Nat) (hk:k < cs.length):Det g 1 203 [.lst (vints cs),.int k] (.bool (gapB cs k)):=by
 intro Q X H q
 obtain ⟨c,hc⟩:=get_int hk
 refine D.is_gap.w rfl ?_
 unfold gapB at q
 rw [hc] at q
 refine ix (vints_get hc) ?_
 refine br (fun e=>?_) fun e=>?_
 ·rw [show decide (some c=some 32∨some c=some 9)=true by simp [e]] at q;exact q
 ·refine ix (vints_get hc) ?_
  rw [show decide (some c=some 32∨some c=some 9)=decide (c=9) by simp [e]] at q;exact q
end
section
variable {g:G} (D:Defs g)
include D
noncomputable abbrev FL (cs:List Int) (st en at_:Nat) (f:Addr) (fi:Option V):Loc:=[some (.lst (vints cs)),some (.int st),some (.int en),some (.ref f),some (.int at_),fi,none]
theorem fields_in1 (cs:List Int) (st en:Nat) (he:en≤cs.length):∀ (d a:Nat),a+d=en→∃ a':Nat,a≤a'∧a'≤en∧(a' < en→gapB cs a'=false)∧∀ (R:QV) (N P:QN) (f:Addr) (fi:Option V) (H:Hp),
  (∀ m H,WB g 3 (condOf (bodyOf m_fields_between 2) 0) (bodyOf (bodyOf m_fields_between 2) 0) R N P m H→P m H)→N (FL cs st en a' f fi) H→P (FL cs st en a f fi) H:=by
 intro d
 induction d with
 | zero=>
  intro a ha
  refine (in_EAAA a (ln 0x1f1b0101110 rfl) (ln 0x841f1b11012b1190201120 rfl ha) (fun h=>False.elim (ln 0x5ff2b11902010b1101020 rfl ha h)) (fun R N P f fi H hP q=>hP _ _ ?_))
  exact br (fun h=>False.elim (ln 0x5ff2b11902010c611601020 rfl ha h)) fun u0=>brF q
 | succ d ih=>
  intro a ha
  by_cases hg:gapB cs a=true
  ·refine el_EAAA (ih (a+1) (ln 0x8417c1f2b21911912012b2199121101130 rfl ha)) fun a' b1 b2 b3 h=>?_
   refine (in_EAAA a' (ln 0x41f1b11011b1191201120 rfl b1) b2 b3 (fun R N P f fi H hP q=>hP _ _ ?_))
   refine br (fun u0=>?_) fun h=>False.elim (ln 0x1041f1b21912011b11218c611601030 rfl b1 b2 h)
   refine (c_is_gap D cs a (ln 0x21041f0b31011b31212b2199121101140 rfl he ha)).up (by decide) _ _ _ ?_
   rw [hg]
   refine brT ?_
   exact h R N P f fi H hP q
  ·refine (in_EAAA a (ln 0x1f1b0101110 rfl) (ln 0x841f1b21012b2199121101130 rfl ha) (fun u0=>by simpa using hg) (fun R N P f fi H hP q=>hP _ _ ?_))
   refine br (fun u0=>?_) fun h=>False.elim (ln 0x61f2b11991221018c611601030 rfl ha h)
   refine (c_is_gap D cs a (Nat.lt_of_lt_of_le (Nat.lt_of_lt_of_eq (Nat.lt_add_of_pos_right (Nat.succ_pos d)) ha) he)).up (by decide) _ _ _ ?_
   rw [show gapB cs a=false by simpa using hg]
   exact brF q
theorem fields_in2 (cs:List Int) (st en:Nat) (he:en≤cs.length):∀ (d a:Nat),a+d=en→∃ a':Nat,a≤a'∧a'≤en∧(a < en→gapB cs a=false→a < a')∧∀ (R:QV) (N P:QN) (f:Addr) (fi:Option V) (H:Hp),
  (∀ m H,WB g 3 (condOf (bodyOf m_fields_between 2) 2) (bodyOf (bodyOf m_fields_between 2) 2) R N P m H→P m H)→N (FL cs st en a' f fi) H→P (FL cs st en a f fi) H:=by
 intro d
 induction d with
 | zero=>
  intro a ha
  refine (in_EAAA a (ln 0x1f1b0101110 rfl) (ln 0x841f1b11012b1190201120 rfl ha) (fun h=>False.elim (ln 0x5ff2b11902010b1101020 rfl ha h)) (fun R N P f fi H hP q=>hP _ _ ?_))
  exact br (fun h=>False.elim (ln 0x5ff2b11902010c611601020 rfl ha h)) fun u0=>brF q
 | succ d ih=>
  intro a ha
  by_cases hg:gapB cs a=true
  ·refine (in_EAAA a (ln 0x1f1b0101110 rfl) (ln 0x841f1b21012b2199121101130 rfl ha) (fun u0 h=>(by rw [hg] at h;trivial)) (fun R N P f fi H hP q=>hP _ _ ?_))
   refine br (fun u0=>?_) fun h=>False.elim (ln 0x61f2b11991221018c611601030 rfl ha h)
   refine (c_is_gap D cs a (Nat.lt_of_lt_of_le (Nat.lt_of_lt_of_eq (Nat.lt_add_of_pos_right (Nat.succ_pos d)) ha) he)).up (by exact Nat.succ_pos _) _ _ _ ?_
   rw [hg]
   exact brF q
  ·refine el_EAAA (ih (a+1) (ln 0x8417c1f2b21911912012b2199121101130 rfl ha)) fun a' b1 b2 b3 h=>?_
   refine (in_EAAA a' (ln 0x41f1b11011b1191201120 rfl b1) b2 (fun u0 u0=>ln 0x41f0b11011b1191201120 rfl b1) (fun R N P f fi H hP q=>hP _ _ ?_))
   refine br (fun u0=>?_) fun h=>False.elim (ln 0x1041f1b21912011b11218c611601030 rfl b1 b2 h)
   refine (c_is_gap D cs a (ln 0x21041f0b31011b31212b2199121101140 rfl he ha)).up (by exact Nat.succ_pos _) _ _ _ ?_
   rw [show gapB cs a=false by simpa using hg]
   refine brT ?_
   exact h R N P f fi H hP q
theorem fields_out (cs:List Int) (hl:cs.length≤100) (st en:Nat) (he:en≤cs.length):∀ (d a:Nat),en - a≤d→∀ (rows:Pairs),rows.length≤a→Within cs.length rows→∀ fi:Option V,∃ (rows':Pairs) (a':Nat) (fi':Option V),rows'.length≤max a en∧Within cs.length rows'∧∀ (R:QV) (N P:QN) (f:Addr) (H:Hp),
  (∀ m H,WB g 4 (condOf m_fields_between 2) (bodyOf m_fields_between 2) R N P m H→P m H)→N (FL cs st en a' f fi') (put H f (.list (rowsV rows')))→P (FL cs st en a f fi) (put H f (.list (rowsV rows))):=by
 intro d
 induction d with
 | zero=>
  intro a ha rows h1 h2 fi
  refine (in_EEEAA rows a fi (Nat.le_trans h1 (Nat.le_max_left _ _)) h2 (fun R N P f H hP q=>hP _ _ ?_))
  exact br (fun h=>False.elim (ln 0x1f041f1b02010c6216112b2191101030 rfl ha h (Nat.sub_add_cancel (ln 0x41f1b11010c611601120 rfl h)))) fun u0=>q
 | succ d ih=>
  intro a ha rows h1 h2 fi
  by_cases hae:a < en
  ·refine el_EAAA (fields_in1 D cs st en he (en - a) a (ln 0x8417c1f2b21901112b2191101130 rfl (Nat.sub_add_cancel (ln 0x41f1b11010b1101120 rfl hae)))) fun a1 b1 b2 b3 k1=>?_
   refine el_EAAA (fields_in2 D cs st en he (en - a1) a1 (ln 0x8417c1f2b21901112b2191101130 rfl (Nat.sub_add_cancel b2))) fun a2 c1 c2 c3 k2=>?_
   by_cases h12:a1 < a2
   ·refine el_EEEAA (ih a2 (ln 0x85f041041f1b61011b91261311b51410b11512b21941312b2191101170 rfl ha b1 h12 (Nat.sub_add_cancel (ln 0x1041f1b11211b01211b1101130 rfl b1 b2)) (Nat.sub_add_cancel c2)) (rows++[(a1,a2)]) (by simp;exact ln 0x41041f1b11912311b21311b01210b1101140 rfl h1 b1 h12) (h2.snoc (ln 0x41041f1b31011b31211b21110b1101140 rfl he c2 h12) (ln 0x1041f1b21011b21111b1101130 rfl he c2)) (some (.int a1))) fun rows' a' fi' d1 d2 h=>?_
    refine (in_EEEAA rows' a' fi' (ln 0x7e1041f1b01311b21312b11212b1101140 rfl d1 (Nat.max_eq_right c2) (Nat.max_eq_right (ln 0x1041f1b11211b01211b1101130 rfl b1 b2))) d2 (fun R N P f H hP q=>hP _ _ ?_))
    refine br (fun u0=>?_) fun h=>False.elim (ln 0x41f0b11018c611601020 rfl hae h)
    refine ⟨fun P' hP'=>?_⟩
    refine k1 _ _ P' f fi _ hP' ?_
    refine ⟨fun P'' hP''=>?_⟩
    refine k2 _ _ P'' f (some (.int a1)) _ hP'' ?_
    refine br (fun u0=>?_) fun h=>False.elim (ln 0x41f0b0111bc611601020 rfl h12 h)
    refine ⟨⟨_,put_at⟩,?_⟩
    refine ⟨by exact Nat.le_of_ble_eq_true rfl,_,put_at,by rw [rowsV_len];exact ln 0x1041041f0b144211b000000643311b31111b01210b1101140 rfl hl he h1 hae,?_⟩
    rw [put_put,rowsV_snoc]
    exact h R N P f H hP q
   ·have:a2=en:=by
     by_cases q:a1 < en
     ·have:=c3 q (b3 q);trivial
     ·exact ln 0x1001040041f2b11211b21011b11218b1101130 rfl c1 c2 q
    refine el_EEEAA (ih a2 (ln 0x217c1f1b31012b21112b2191101140 rfl this (Nat.sub_add_cancel c2)) rows (ln 0x7c1041f1b01311b21310b11212b1101140 rfl h1 hae this) h2 (some (.int a1))) fun rows' a' fi' d1 d2 h=>?_
    refine (in_EEEAA rows' a' fi' (ln 0x1f841841f1b01412b11311b21412b31212b1101150 rfl this d1 (Nat.max_eq_left (ln 0x7c1f1b01112b1101120 rfl this)) (Nat.max_eq_right (ln 0x41f1b11010b1101120 rfl hae))) d2 (fun R N P f H hP q=>hP _ _ ?_))
    refine br (fun u0=>?_) fun h=>False.elim (ln 0x41f0b11018c611601020 rfl hae h)
    refine ⟨fun P' hP'=>?_⟩
    refine k1 _ _ P' f fi _ hP' ?_
    refine ⟨fun P'' hP''=>?_⟩
    refine k2 _ _ P'' f (some (.int a1)) _ hP'' ?_
    refine br (fun h=>False.elim (ln 0x41f8b01113c611601020 rfl h12 h)) fun u0=>?_
    exact h R N P f H hP q
  ·refine (in_EEEAA rows a fi (ln 0x1f041f1b01211b11212b1101130 rfl h1 (Nat.max_eq_left (ln 0x41f1b01118b1101120 rfl hae))) h2 (fun R N P f H hP q=>hP _ _ ?_))
   exact br (fun h=>False.elim (ln 0x41f8b11010c611601020 rfl hae h)) fun u0=>q
theorem c_fields_between (cs:List Int) (hl:cs.length≤100) (st en:Nat) (hs:st≤cs.length) (he:en≤cs.length):∃ rows:Pairs,rows.length≤cs.length∧Within cs.length rows∧Det g 6 210 [.lst (vints cs),.int st,.int en] (.lst (rowsV rows)):=by
 refine el_EEEAA (fields_out D cs hl st en he (en - st) st (ln 0x1f1b0101110 rfl) [] (by exact Nat.zero_le _) (.nil _) none) fun rows a' fi b1 b2 h=>?_
 refine (in_EAA rows (Nat.le_trans b1 (Nat.max_le.mpr ⟨hs,he⟩)) b2 (fun Q X H q=>?_))
 refine D.fields_between.w rfl ?_
 refine ⟨by exact Nat.zero_le _,.inr fun a ha=>?_⟩
 refine ⟨fun P hP=>?_⟩
 refine h _ _ P a H hP ?_
 refine ⟨_,put_at,?_⟩
 rw [del_put ha];exact q
end
end Mine
namespace Mine
theorem rowsV_get {r:Pairs} {k:Nat} {p:Nat × Nat} (h:r[k]?=some p):(rowsV r)[k]?=some (.tup [.int p.1,.int p.2]):=by
 unfold rowsV;rw [List.getElem?_map,h];rfl
theorem get_pair {r:Pairs} {k:Nat} (h:k < r.length):∃ p,r[k]?=some p∧p∈r:=⟨r[k],List.getElem?_eq_getElem h,List.getElem_mem h⟩
noncomputable def FldV (n:Nat) (v:V):Prop:=v=.none∨∃ s e:Nat,s≤n∧e≤n∧v=.tup [.int s,.int e]
section
variable {g:G} (D:Defs g)
include D
theorem c_field_at (cs:List Int) (hl:cs.length≤100) (st en:Nat) (hs:st≤cs.length) (he:en≤cs.length) (nb:Int):∃ v,FldV cs.length v∧Det g 8 217 [.lst (vints cs),.int st,.int en,.int nb] v:=by
 refine el_EAA (c_fields_between D cs hl st en hs he) fun rows b1 b2 h=>?_
 have main:∀ pl:Int,pl=(if nb > 0 then nb - 1 else (rows.length:Int)+nb)→∀ v,(∀ Q X H,Q v H→wSs g 7 [.ret (.ite (.cmp2 .LtE .Lt (.int 0) (.var 5) (.bcall .len (.cons (.var 4) (.nil)))) (.idx (.var 4) (.var 5)) (.none))]
   [some (.lst (vints cs)),some (.int st),some (.int en),some (.int nb),some (.lst (rowsV rows)),some (.int pl),none,none] (fun u0 H=>Q .none H) Q X H)→Det g 8 217 [.lst (vints cs),.int st,.int en,.int nb] v:=by
  intro pl hpl v hv Q X H q
  refine D.field_at.w rfl ?_
  refine h.up (by exact Nat.le_refl _) _ _ _ ?_
  refine br (fun h=>?_) fun h=>?_
  ·rw [if_pos h] at hpl
   have:=hv Q X H q
   rw [hpl] at this
   exact this
  ·rw [if_neg h] at hpl
   have:=hv Q X H q
   rw [hpl] at this
   conv=>whnf
   rw [rowsV_len]
   exact this
 by_cases hb:0≤(if nb > 0 then nb - 1 else (rows.length:Int)+nb)∧(if nb > 0 then nb - 1 else (rows.length:Int)+nb) < rows.length
 ·obtain ⟨k,hk⟩:∃ k:Nat,(if nb > 0 then nb - 1 else (rows.length:Int)+nb)=k:=⟨_,(Int.toNat_of_nonneg hb.1).symm⟩
  have hkl:k < rows.length:=by have:=hb.2;rw [hk] at this;exact ln 0x41f0b11010c611601120 rfl this
  refine el_EA (get_pair hkl) fun p hp hm=>?_
  refine (in_EA _ (.inr (in_EEAA p.1 p.2 ((b2 p hm).1) ((b2 p hm).2) rfl)) (main k hk.symm _ fun Q X H q=>?_))
  refine br (fun u0=>?_) fun h=>False.elim (ln 0x1f9c60102010 rfl h)
  refine br (fun u0=>?_) fun h=>absurd h (by rw [rowsV_len];exact fun u60=>ln 0x41f0b11018c611601020 rfl hkl u60)
  exact ix (rowsV_get hp) q
 ·refine (in_EA .none (.inl rfl) (main _ rfl _ fun Q X H q=>?_))
  refine br (fun h1=>?_) fun h=>brF q
  refine br (fun h2=>absurd h2 (by rw [rowsV_len];exact fun u=>hb ⟨h1,u⟩)) fun h=>q
theorem num_loop (cs:List Int) (st en:Nat) (below:V) (he:en≤cs.length) (hl:cs.length≤50):∀ (d a:Nat),a+d=en→∀ f:Nat,f < 10 ^ a→∃ (a' f':Nat),∀ (R:QV) (N P:QN) (H:Hp),
  (∀ m H,WB g 2 (condOf m_number_at 4) (bodyOf m_number_at 4) R N P m H→P m H)→N [some (.lst (vints cs)),some (.int st),some (.int en),some (.int a'),some below,some (.int f'),none,none,none] H →
   P [some (.lst (vints cs)),some (.int st),some (.int en),some (.int a),some below,some (.int f),none,none,none] H:=by
 intro d
 induction d with
 | zero=>
  intro a ha f hf
  refine (in_EE a f (fun R N P H hP q=>hP _ _ ?_))
  exact br (fun h=>by exact False.elim (ln 0x5ff2b11902010c611601020 rfl ha h)) fun u0=>brF q
 | succ d ih=>
  intro a ha f hf
  obtain ⟨c,hc⟩:=get_int (cs:=cs) (k:=a) (ln 0x21041f0b31011b31212b2199121101140 rfl he ha)
  by_cases h1:48≤c∧c≤57
  ·obtain ⟨e,he1⟩:∃ e:Nat,c - 48=e:=⟨(c - 48).toNat,ln 0x7c1841f2c601a000000303002ca00000030300601111 rfl (Int.toNat_of_nonneg (ln 0x41f1ca00000030300021c00000000303101 rfl h1.1))⟩
   have e9:e≤9:=ln 0x1f041f1b92011c000000393002c601a00000030300111 rfl h1.2 he1
   have hp:10 ^ (a+1)=10 ^ a*10:=Nat.pow_succ ..
   refine el_EE (ih (a+1) (by exact ln 0x8417c1f2b21911912012b2199121101130 rfl ha) (10*f+e) (by rw [hp];exact Nat.lt_of_lt_of_le (show 10*f+e < (f+1)*10 by exact ln 0x41f0b0a8912119010a7111b9201120 rfl e9) (Nat.mul_le_mul_right 10 hf))) fun a' f' h=>?_
   refine (in_EE a' f' (fun R N P H hP q=>hP _ _ ?_))
   refine br (fun u0=>?_) fun h=>False.elim (ln 0x61f2b11991221018c611601030 rfl ha h)
   refine ix (vints_get hc) ?_
   refine br (fun u0=>?_) fun h=>False.elim (ln 0x5ff2c601a000000303009c00000000303011 rfl he1 h)
   refine br (fun u0=>?_) fun h=>False.elim (ln 0x1061f2c601a000000303001b92019c00000039300011 rfl he1 e9 h)
   have hb:f < 2 ^ 200:=Nat.lt_trans (Nat.lt_of_lt_of_le hf (Nat.pow_le_pow_right (by exact Nat.succ_pos _) (by exact ln 0x841041f1b000000323011b31211b000000323312b2199121101140 rfl he hl ha:a≤50))) (by exact Nat.le_of_ble_eq_true rfl)
   refine (in_AA (by exact Nat.le_of_ble_eq_true rfl) (by simpa using hb) ?_)
   refine ix (vints_get hc) ?_
   have:=h R N P H hP q
   rw [show ((10*f+e:Nat):Int)=10*(f:Int)+c - 48 by exact ln 0x7c1841f2ca0000003039000a761169010a7112c601a00000030300121 rfl he1] at this
   exact this
  ·refine (in_EE a f (fun R N P H hP q=>hP _ _ ?_))
   refine br (fun u0=>?_) fun h=>False.elim (ln 0x61f2b11991221018c611601030 rfl ha h)
   refine ix (vints_get hc) ?_
   refine br (fun h0=>?_) fun h=>brF q
   exact br (fun h=>absurd ⟨h0,h⟩ h1) fun h=>q
theorem c_number_at (cs:List Int) (hl:cs.length≤50) (st en:Nat) (hs:st≤cs.length) (he:en≤cs.length):∃ z:Int,Det g 4 224 [.lst (vints cs),.int st,.int en] (.int z):=by
 by_cases hlt:st < en
 ·obtain ⟨c,hc⟩:=get_int (cs:=cs) (k:=st) (ln 0x1041f0b21011b21110b1101130 rfl he hlt)
  by_cases h45:c=45
  ·refine el_EE (num_loop D cs st en (.bool true) he hl (en - (st+1)) (st+1) (ln 0x8417c1f2b21901912112b2199121101130 rfl (Nat.sub_add_cancel (ln 0x41f1b11912010b1101120 rfl hlt))) 0 (Nat.pow_pos (by exact Nat.succ_pos _))) fun a' f' h=>?_
   refine ⟨0 - f',fun Q X H q=>?_⟩
   refine D.number_at.w rfl ?_
   refine br (fun u0=>?_) fun h=>False.elim (ln 0x41f0b11018c611601020 rfl hlt h)
   refine ix (vints_get hc) ?_
   conv=>whnf
   rw [decide_eq_true h45]
   refine brT ?_
   refine ⟨fun P hP=>?_⟩
   refine h _ _ P H hP ?_
   exact brT q
  ·refine el_EE (num_loop D cs st en (.bool false) he hl (en - st) st (ln 0x8417c1f2b21901112b2191101130 rfl (Nat.sub_add_cancel (ln 0x41f1b11010b1101120 rfl hlt))) 0 (Nat.pow_pos (by exact Nat.succ_pos _))) fun a' f' h=>?_
   refine ⟨f',fun Q X H q=>?_⟩
   refine D.number_at.w rfl ?_
   refine br (fun u0=>?_) fun h=>False.elim (ln 0x41f0b11018c611601020 rfl hlt h)
   refine ix (vints_get hc) ?_
   conv=>whnf
   rw [decide_eq_false h45]
   refine brF ?_
   refine ⟨fun P hP=>?_⟩
   refine h _ _ P H hP ?_
   exact brF q
 ·refine ⟨0,fun Q X H q=>?_⟩
  refine D.number_at.w rfl ?_
  refine br (fun h=>False.elim (ln 0x41f8b11010c611601020 rfl hlt h)) fun u0=>?_
  refine brF ?_
  refine ⟨fun P hP=>hP _ _ ?_⟩
  refine br (fun h=>by trivial) fun u0=>brF ?_
  exact brF q
theorem para_loop (cs:List Int) (hl:cs.length≤100):∀ (rs:Pairs),Within cs.length rs→∀ (acc:Pairs) (o1 o2:Option V),acc.length+rs.length≤200→Within cs.length acc→∃ (acc':Pairs) (o1' o2':Option V),acc'.length≤acc.length+rs.length∧Within cs.length acc' ∧
  ∀ (R:QV) (N:QN) (a:Addr) (H:Hp),N [some (.lst (vints cs)),some (.ref a),o1',o2',none,none,none] (put H a (.list (rowsV acc'))) →
   loopW (LB g 7 [2,3] false (bodyOf m_paragraphs_between 1) R) (rowsV rs) [some (.lst (vints cs)),some (.ref a),o1,o2,none,none,none] N (put H a (.list (rowsV acc))):=by
 intro rs
 induction rs with
 | nil=>exact fun u0 acc o1 o2 u0 h=>(in_EEEAA acc o1 o2 (by exact Nat.le_refl _) h (fun R N a H q=>q))
 | cons p rs ih=>
  intro hw acc o1 o2 hlen ha
  obtain ⟨s,e⟩:=p
  simp only [List.length_cons] at hlen ⊢
  have hp:=hw _ (.head _)
  have hw':Within cs.length rs:=fun q hq=>hw q (.tail _ hq)
  simp only at hp
  by_cases h1:s < e
  ·refine el_EAA (c_fields_between D cs hl s e hp.1 hp.2) fun fs f1 f2 hf=>?_
   by_cases h2:fs.length > 0
   ·by_cases h3:∃ r q,acc=r++[q]∧(q.2:Int)=s - 1
    ·refine el_EEA h3 fun r q0 rf2 hq=>?_;subst rf2
     refine el_EEEAA (ih hw' (r++[(q0.1,e)]) (some (.int q0.1)) (some (.int e)) (by simp at hlen ⊢;exact Nat.le_of_lt hlen) (fun x hx=>by
      rcases List.mem_append.mp hx with q | q
      ·exact ha x (List.mem_append_left _ q)
      ·rw [List.mem_singleton.mp q];exact ⟨(ha q0 (by simp)).1,hp.2⟩)) fun acc' o1' o2' b1 b2 h=>?_
     refine (in_EEEAA acc' o1' o2' (by simp at b1 ⊢;exact ln 0x41f1b99122191211011b9219121101130 rfl b1) b2 (fun R N a H q=>?_))
     refine br (fun u0=>?_) fun h=>False.elim (ln 0x41f0b11018c611601020 rfl h1 h)
     refine hf.up (by exact Nat.le_refl _) _ _ _ ?_
     refine br (fun u0=>?_) fun h=>absurd h (by rw [rowsV_len];exact fun u60=>ln 0x41f3b0201bc02601010 rfl h2 u60)
     refine .inl ⟨_,put_at,?_⟩
     refine br (fun u0=>?_) fun h=>absurd h (by rw [rowsV_len];simp)
     refine .inl ⟨_,put_at,?_⟩
     refine .inl ⟨_,put_at,?_⟩
     rw [show ((rowsV (r++[q0])).length:Int) - 1=((r.length:Nat):Int) by rw [rowsV_len];simp]
     refine ix (rowsV_get (p:=q0) (by simp)) ?_
     refine ix (k:=1) rfl ?_
     refine br (fun u0=>?_) fun h=>absurd hq h
     refine (in_EEA (rowsV r) (.tup [.int q0.1,.int q0.2]) (by rw [put_at];simp [rowsV]) ?_)
     refine ix (k:=0) rfl ?_
     refine ⟨⟨_,put_at⟩,?_⟩
     refine ⟨by exact Nat.le_of_ble_eq_true rfl,_,put_at,by rw [rowsV_len];simp at hlen;exact ln 0x41f0b144011b000000c8399121191201120 rfl hlen,?_⟩
     rw [put_put,put_put,rowsV_snoc]
     exact h R N a H q
    ·refine el_EEEAA (ih hw' (acc++[(s,e)]) (some (.int s)) (some (.int e)) (by simp;exact ln 0x41f1b000000c83911912011b000000c8399121101120 rfl hlen) (ha.snoc hp.1 hp.2)) fun acc' o1' o2' b1 b2 h=>?_
     refine (in_EEEAA acc' o1' o2' (by simp at b1 ⊢;exact ln 0x41f1b99122111011b9219121101130 rfl b1) b2 (fun R N a H q=>?_))
     refine br (fun u0=>?_) fun h=>False.elim (ln 0x41f0b11018c611601020 rfl h1 h)
     refine hf.up (by exact Nat.le_refl _) _ _ _ ?_
     refine br (fun u0=>?_) fun h=>absurd h (by rw [rowsV_len];exact fun u60=>ln 0x41f3b0201bc02601010 rfl h2 u60)
     refine .inl ⟨_,put_at,?_⟩
     have fin:wSs g 7 [.ex (.append (.var 1) (.tup (.cons (.var 2) (.cons (.var 3) (.nil)))))] [some (.lst (vints cs)),some (.ref a),some (.int s),some (.int e),none,none,none] (fun m' H'=>loopW (LB g 7 [2,3] false (bodyOf m_paragraphs_between 1) R) (rowsV rs) m' N H') R (fun u0 u0=>False) (put H a (.list (rowsV acc))):=by
      refine ⟨⟨_,put_at⟩,?_⟩
      refine ⟨by exact Nat.le_of_ble_eq_true rfl,_,put_at,by rw [rowsV_len];exact ln 0x41f0b144011b000000c8399121101120 rfl hlen,?_⟩
      rw [put_put,rowsV_snoc]
      exact h R N a H q
     refine br (fun hne=>?_) fun h=>brF fin
     rw [rowsV_len] at hne
     refine el_EE (show ∃ r q0,acc=r++[q0] from (in_EE acc.dropLast (acc.getLast (by intro q;rw [q] at hne;trivial)) ((List.dropLast_concat_getLast _).symm))) fun r q0 rf2=>?_;subst rf2
     refine .inl ⟨_,put_at,?_⟩
     refine .inl ⟨_,put_at,?_⟩
     rw [show ((rowsV (r++[q0])).length:Int) - 1=((r.length:Nat):Int) by rw [rowsV_len];simp]
     refine ix (rowsV_get (p:=q0) (by simp)) ?_
     refine ix (k:=1) rfl ?_
     exact br (fun h=>absurd ⟨r,q0,rfl,h⟩ h3) fun u0=>fin
   ·refine el_EEEAA (ih hw' acc (some (.int s)) (some (.int e)) (ln 0x41f1b000000c83911011b000000c8399121101120 rfl hlen) ha) fun acc' o1' o2' b1 b2 h=>?_
    refine (in_EEEAA acc' o1' o2' (ln 0x41f1b99122111011b9211101130 rfl b1) b2 (fun R N a H q=>?_))
    refine br (fun u0=>?_) fun h=>False.elim (ln 0x41f0b11018c611601020 rfl h1 h)
    refine hf.up (by exact Nat.le_refl _) _ _ _ ?_
    refine br (fun h=>absurd h (by rw [rowsV_len];exact ln 0x41fbc02601bb0201110 rfl h2)) fun u0=>?_
    exact h R N a H q
  ·refine el_EEEAA (ih hw' acc (some (.int s)) (some (.int e)) (ln 0x41f1b000000c83911011b000000c8399121101120 rfl hlen) ha) fun acc' o1' o2' b1 b2 h=>?_
   refine (in_EEEAA acc' o1' o2' (ln 0x41f1b99122111011b9211101130 rfl b1) b2 (fun R N a H q=>?_))
   refine br (fun h=>False.elim (ln 0x41f8b11010c611601020 rfl h1 h)) fun u0=>brF ?_
   exact h R N a H q
theorem c_paragraphs_between (cs:List Int) (hl:cs.length≤60):∃ rows:Pairs,rows.length≤cs.length∧Within cs.length rows∧Det g 9 231 [.lst (vints cs)] (.lst (rowsV rows)):=by
 refine el_EAA (c_rows_between D cs (ln 0x41f1b000000643011b0000003c301110 rfl hl)) fun rs r1 r2 hr=>?_
 refine el_EEEAA (para_loop D cs (ln 0x41f1b000000643011b0000003c301110 rfl hl) rs r2 [] none none (by simp;exact ln 0x1041f1b000000c83011b0000003c3111b1101120 rfl hl r1) (.nil _)) fun rows o1 o2 b1 b2 h=>?_
 refine (in_EAA rows (by simp at b1;exact Nat.le_trans (by assumption) (by assumption)) b2 (fun Q X H q=>?_))
 refine D.paragraphs_between.w rfl ?_
 refine ⟨by exact Nat.zero_le _,.inr fun a ha=>?_⟩
 refine hr.up (by exact Nat.le_of_ble_eq_true rfl) _ _ _ ?_
 refine h _ _ a H ?_
 refine ⟨_,put_at,?_⟩
 rw [del_put ha];exact q
end
end Mine
namespace Mine
noncomputable abbrev Recs:=List (V × V × V)
noncomputable def RecR (n:Nat) (p:V × V × V):Prop:=∃ (s e:Nat) (z:List Int),s≤n∧e≤n∧p=(.int s,.int e,.lst (vints z))
noncomputable def RecF (n:Nat) (p:V × V × V):Prop:=∃ (s e:Nat) (z:Int),s≤n∧e≤n∧p=(.int s,.int e,.int z)
theorem snoc_all {α:Type} {P:α→Prop} {l:List α} {x:α} (h:∀ p∈l,P p) (hx:P x):∀ p∈l++[x],P p:=fun p hp=>by
 rcases List.mem_append.mp hp with q | q
 ·exact h p q
 ·rw [List.mem_singleton.mp q];exact hx
noncomputable def RecsOk (n:Nat) (ps:Recs):Prop:=(∀ p∈ps,∃ (s e:Nat) (k:V),s≤n∧e≤n∧p=(.int s,.int e,k))∧∃ ks:Keys,(ps.map fun p=>p.2.2)=ks.vs
theorem RecR.ok {n:Nat} {ps:Recs} (h:∀ p∈ps,RecR n p):RecsOk n ps:=by
 refine ⟨fun p hp=>?_,?_⟩
 ·refine el_EEEAA (h p hp) fun s e z h1 h2 h3=>?_;exact (in_EEEAA s e _ h1 h2 h3)
 ·have:∃ zs:List (List Int),(ps.map fun p=>p.2.2)=zs.map fun z=>V.lst (vints z):=by
   induction ps with
   | nil=>exact ⟨[],rfl⟩
   | cons p ps ih=>
    obtain ⟨zs,e⟩:=ih fun q hq=>h q (.tail _ hq)
    refine el_EEEAA (h p (.head _)) fun s e' z h1 h2 h3=>?_
    exact ⟨z::zs,by simp [e,h3]⟩
  obtain ⟨zs,e⟩:=this
  exact ⟨.rows zs,e⟩
theorem RecF.ok {n:Nat} {ps:Recs} (h:∀ p∈ps,RecF n p):RecsOk n ps:=by
 refine ⟨fun p hp=>?_,?_⟩
 ·refine el_EEEAA (h p hp) fun s e z h1 h2 h3=>?_;exact (in_EEEAA s e _ h1 h2 h3)
 ·have:∃ zs:List Int,(ps.map fun p=>p.2.2)=zs.map .int:=by
   induction ps with
   | nil=>exact ⟨[],rfl⟩
   | cons p ps ih=>
    obtain ⟨zs,e⟩:=ih fun q hq=>h q (.tail _ hq)
    refine el_EEEAA (h p (.head _)) fun s e' z h1 h2 h3=>?_
    exact ⟨z::zs,by simp [e,h3]⟩
  obtain ⟨zs,e⟩:=this
  exact ⟨.figs zs,e⟩
theorem recs_snoc (acc:Recs) (x y z:V):acc.map recOf++[.tup [x,y,z]]=(acc++[(x,y,z)]).map recOf:=by simp [recOf]
theorem recs_len (acc:Recs):(acc.map recOf).length=acc.length:=List.length_map ..
section
variable {g:G} (D:Defs g)
include D
theorem rec_loop (folds:Bool) (cs:List Int) (hl:cs.length≤60):∀ (rs:Pairs),Within cs.length rs→∀ (acc:Recs) (o3 o4 o5:Option V),acc.length+rs.length≤200→(∀ p∈acc,RecR cs.length p)→∃ (acc':Recs) (o3' o4' o5':Option V),acc'.length=acc.length+rs.length∧(∀ p∈acc',RecR cs.length p) ∧
  ∀ (R:QV) (N:QN) (a:Addr) (H:Hp),N [some (.lst (vints cs)),some (.bool folds),some (.ref a),o3',o4',o5',none,none] (put H a (.list (acc'.map recOf))) →
   loopW (LB g 9 [3,4] false (bodyOf m_row_records 1) R) (rowsV rs) [some (.lst (vints cs)),some (.bool folds),some (.ref a),o3,o4,o5,none,none] N (put H a (.list (acc.map recOf))):=by
 intro rs
 induction rs with
 | nil=>exact fun u0 acc o3 o4 o5 u0 h=>(in_EEEEAA acc o3 o4 o5 (by simp) h (fun R N a H q=>q))
 | cons p rs ih=>
  intro hw acc o3 o4 o5 hlen ha
  obtain ⟨s,e⟩:=p
  simp only [List.length_cons] at hlen ⊢
  have hp:=hw _ (.head _)
  simp only at hp
  refine el_EA (vints_cut cs (some s) (some e)) fun ds hd hdl=>?_
  refine el_EEEEAA (ih (fun q hq=>hw q (.tail _ hq)) (acc++[(V.int s,V.int e,V.lst (vints (if folds then ds.map downR else ds)))]) (some (.int s)) (some (.int e)) (some (.lst (vints ds))) (by simp;exact ln 0x41f1b000000c83911912011b000000c8399121101120 rfl hlen)
   (snoc_all ha (in_EEEAA s e _ hp.1 hp.2 rfl))) fun acc' o3' o4' o5' b1 b2 h=>?_
  refine (in_EEEEAA acc' o3' o4' o5' (by simp at b1;exact ln 0x8417c1f2b99122111012b9219121101130 rfl b1) b2 (fun R N a H q=>?_))
  conv=>whnf
  rw [hd]
  refine ⟨by rw [vints_len];exact ln 0x1041f1b184011b0000003c3111b1101120 rfl hl hdl,.inl ?_⟩
  refine ⟨⟨_,put_at⟩,?_⟩
  refine brb (fun hb=>?_) fun hb=>?_
  ·refine (c_downcased D ds (ln 0x1041f1b000003e83011b0000003c3111b1101120 rfl hl hdl)).up (by exact Nat.le_of_ble_eq_true rfl) _ _ _ ?_
   refine ⟨by exact Nat.le_of_ble_eq_true rfl,_,put_at,by rw [recs_len];exact ln 0x41f0b144011b000000c8399121101120 rfl hlen,?_⟩
   rw [put_put,recs_snoc]
   have:=h R N a H q
   rw [if_pos hb] at this
   exact this
  ·refine ⟨by exact Nat.le_of_ble_eq_true rfl,_,put_at,by rw [recs_len];exact ln 0x41f0b144011b000000c8399121101120 rfl hlen,?_⟩
   rw [put_put,recs_snoc]
   have:=h R N a H q
   rw [hb,if_neg (by exact Bool.noConfusion)] at this
   rw [hb];exact this
theorem c_row_records (cs:List Int) (hl:cs.length≤60) (folds:Bool):∃ ps:Recs,ps.length≤cs.length∧RecsOk cs.length ps∧Det g 11 259 [.lst (vints cs),.bool folds] (.lst (ps.map recOf)):=by
 refine el_EAA (c_rows_between D cs (ln 0x41f1b000000643011b0000003c301110 rfl hl)) fun rs r1 r2 hr=>?_
 refine el_EEEEAA (rec_loop D folds cs hl rs r2 [] none none none (by simp;exact ln 0x1041f1b000000c83011b0000003c3111b1101120 rfl hl r1) (fun u0 h=>nomatch h)) fun ps o3 o4 o5 b1 b2 h=>?_
 refine (in_EAA ps (by simp at b1;exact ln 0x21041f1b21011b21112b1101130 rfl r1 b1) (RecR.ok b2) (fun Q X H q=>?_))
 refine D.row_records.w rfl ?_
 refine ⟨by decide,.inr fun a ha=>?_⟩
 refine hr.up (by decide) _ _ _ ?_
 refine h _ _ a H ?_
 refine ⟨_,put_at,?_⟩
 rw [del_put ha];exact q
theorem c_paragraph_records (cs:List Int) (hl:cs.length≤60) (folds:Bool):∃ ps:Recs,ps.length≤cs.length∧RecsOk cs.length ps∧Det g 11 266 [.lst (vints cs),.bool folds] (.lst (ps.map recOf)):=by
 refine el_EAA (c_paragraphs_between D cs hl) fun rs r1 r2 hr=>?_
 refine el_EEEEAA (rec_loop D folds cs hl rs r2 [] none none none (by simp;exact ln 0x1041f1b000000c83011b0000003c3111b1101120 rfl hl r1) (fun u0 h=>nomatch h)) fun ps o3 o4 o5 b1 b2 h=>?_
 refine (in_EAA ps (by simp at b1;exact ln 0x21041f1b21011b21112b1101130 rfl r1 b1) (RecR.ok b2) (fun Q X H q=>?_))
 refine D.paragraph_records.w rfl ?_
 refine ⟨by exact Nat.zero_le _,.inr fun a ha=>?_⟩
 refine hr.up (by exact Nat.le_refl _) _ _ _ ?_
 refine h _ _ a H ?_
 refine ⟨_,put_at,?_⟩
 rw [del_put ha];exact q
theorem colrec_loop (folds:Bool) (f1 f2:Int) (cs:List Int) (hl:cs.length≤60):∀ (rs:Pairs),Within cs.length rs→∀ (acc:Recs) (o3 o4 o5:Option V),acc.length+rs.length≤200→(∀ p∈acc,RecR cs.length p)→∃ (acc':Recs) (o3' o4' o5':Option V),acc'.length=acc.length+rs.length∧(∀ p∈acc',RecR cs.length p) ∧
  ∀ (R:QV) (N:QN) (a:Addr) (H:Hp),N [some (.lst (vints cs)),some (.int f1),some (.int f2),some (.bool folds),some (.ref a),o3',o4',o5',none,none,none] (put H a (.list (acc'.map recOf))) →
   loopW (LB g 9 [5,6] false (bodyOf m_column_records 1) R) (rowsV rs) [some (.lst (vints cs)),some (.int f1),some (.int f2),some (.bool folds),some (.ref a),o3,o4,o5,none,none,none] N (put H a (.list (acc.map recOf))):=by
 intro rs
 induction rs with
 | nil=>exact fun u0 acc o3 o4 o5 u0 h=>(in_EEEEAA acc o3 o4 o5 (by simp) h (fun R N a H q=>q))
 | cons p rs ih=>
  intro hw acc o3 o4 o5 hlen ha
  obtain ⟨s,e⟩:=p
  simp only [List.length_cons] at hlen ⊢
  have hp:=hw _ (.head _)
  simp only at hp
  refine el_EA (vints_cut cs (some (if (e:Int) < (s:Int)+f1 then (e:Int) else s+f1)) (some (if (e:Int) < (s:Int)+f2 then (e:Int) else s+f2))) fun ds hd hdl=>?_
  refine el_EEEEAA (ih (fun q hq=>hw q (.tail _ hq)) (acc++[(V.int s,V.int e,V.lst (vints (if folds then ds.map downR else ds)))]) (some (.int s)) (some (.int e)) (some (.lst (vints ds))) (by simp;exact ln 0x41f1b000000c83911912011b000000c8399121101120 rfl hlen)
   (snoc_all ha (in_EEEAA s e _ hp.1 hp.2 rfl))) fun acc' o3' o4' o5' b1 b2 h=>?_
  refine (in_EEEEAA acc' o3' o4' o5' (by simp at b1;exact ln 0x8417c1f2b99122111012b9219121101130 rfl b1) b2 (fun R N a H q=>?_))
  conv=>whnf
  rw [hd]
  refine ⟨by rw [vints_len];exact ln 0x1041f1b184011b0000003c3111b1101120 rfl hl hdl,.inl ?_⟩
  refine ⟨⟨_,put_at⟩,?_⟩
  refine brb (fun hb=>?_) fun hb=>?_
  ·refine (c_downcased D ds (ln 0x1041f1b000003e83011b0000003c3111b1101120 rfl hl hdl)).up (by decide) _ _ _ ?_
   refine ⟨by simp,_,put_at,by rw [recs_len];exact ln 0x41f0b144011b000000c8399121101120 rfl hlen,?_⟩
   rw [put_put,recs_snoc]
   have:=h R N a H q
   rw [if_pos hb] at this
   exact this
  ·refine ⟨by simp,_,put_at,by rw [recs_len];exact ln 0x41f0b144011b000000c8399121101120 rfl hlen,?_⟩
   rw [put_put,recs_snoc]
   have:=h R N a H q
   rw [hb,if_neg (by simp)] at this
   rw [hb];exact this
theorem c_column_records (cs:List Int) (hl:cs.length≤60) (f1 f2:Int) (folds:Bool):∃ ps:Recs,ps.length≤cs.length∧RecsOk cs.length ps∧Det g 11 287 [.lst (vints cs),.int f1,.int f2,.bool folds] (.lst (ps.map recOf)):=by
 refine el_EAA (c_rows_between D cs (ln 0x41f1b000000643011b0000003c301110 rfl hl)) fun rs r1 r2 hr=>?_
 refine el_EEEEAA (colrec_loop D folds f1 f2 cs hl rs r2 [] none none none (by simp;exact ln 0x1041f1b000000c83011b0000003c3111b1101120 rfl hl r1) (fun u0 h=>nomatch h)) fun ps o3 o4 o5 b1 b2 h=>?_
 refine (in_EAA ps (by simp at b1;exact ln 0x21041f1b21011b21112b1101130 rfl r1 b1) (RecR.ok b2) (fun Q X H q=>?_))
 refine D.column_records.w rfl ?_
 refine ⟨by decide,.inr fun a ha=>?_⟩
 refine hr.up (by decide) _ _ _ ?_
 refine h _ _ a H ?_
 refine ⟨_,put_at,?_⟩
 rw [del_put ha];exact q
theorem fldrec_loop (folds:Bool) (nb:Int) (cs:List Int) (hl:cs.length≤50):∀ (rs:Pairs),Within cs.length rs→∀ (acc:Recs) (o3 o4 o5 o6:Option V),acc.length+rs.length≤200→(∀ p∈acc,RecR cs.length p) →
  (∃ (acc':Recs) (o3' o4' o5' o6':Option V),acc'.length=acc.length+rs.length∧(∀ p∈acc',RecR cs.length p) ∧
  ∀ (R:QV) (N:QN) (a:Addr) (H:Hp),N [some (.lst (vints cs)),some (.int nb),some (.bool folds),some (.ref a),o3',o4',o5',o6',none,none,none] (put H a (.list (acc'.map recOf))) →
   loopW (LB g 9 [4,5] false (bodyOf m_field_records 1) R) (rowsV rs) [some (.lst (vints cs)),some (.int nb),some (.bool folds),some (.ref a),o3,o4,o5,o6,none,none,none] N (put H a (.list (acc.map recOf)))) ∨
  (∀ (R:QV) (N:QN) (a:Addr) (H:Hp),(∀ o,R .none (put H a o))→loopW (LB g 9 [4,5] false (bodyOf m_field_records 1) R) (rowsV rs) [some (.lst (vints cs)),some (.int nb),some (.bool folds),some (.ref a),o3,o4,o5,o6,none,none,none] N (put H a (.list (acc.map recOf)))):=by
 intro rs
 induction rs with
 | nil=>exact fun u0 acc o3 o4 o5 o6 u0 h=>.inl ⟨acc,o3,o4,o5,o6,by simp,h,fun R N a H q=>q⟩
 | cons p rs ih=>
  intro hw acc o3 o4 o5 o6 hlen ha
  obtain ⟨s,e⟩:=p
  simp only [List.length_cons] at hlen ⊢
  have hp:=hw _ (.head _)
  simp only at hp
  obtain ⟨v,hv,hf⟩:=c_field_at D cs (ln 0x41f1b000000643011b00000032301110 rfl hl) s e hp.1 hp.2 nb
  rcases hv with rfl | ⟨fs,fe,hfs,hfe,rfl⟩
  ·refine .inr fun R N a H q=>?_
   refine hf.up (by exact Nat.le_refl _) _ _ _ ?_
   exact brT (q _)
  obtain ⟨ds,hd,hdl⟩:=vints_cut cs (some fs) (some fe)
  have turn:∀ (R:QV) (N:QN) (a:Addr) (H:Hp),loopW (LB g 9 [4,5] false (bodyOf m_field_records 1) R) (rowsV rs) [some (.lst (vints cs)),some (.int nb),some (.bool folds),some (.ref a),some (.int s),some (.int e),some (.tup [.int fs,.int fe]),some (.lst (vints ds)),none,none,none] N
     (put H a (.list ((acc++[(V.int s,V.int e,V.lst (vints (if folds then ds.map downR else ds)))]).map recOf))) →
    loopW (LB g 9 [4,5] false (bodyOf m_field_records 1) R) (rowsV ((s,e)::rs)) [some (.lst (vints cs)),some (.int nb),some (.bool folds),some (.ref a),o3,o4,o5,o6,none,none,none] N (put H a (.list (acc.map recOf))):=by
   intro R N a H this
   refine hf.up (by exact Nat.le_refl _) _ _ _ ?_
   refine brF ?_
   refine ix (k:=0) rfl ?_
   refine ix (k:=1) rfl ?_
   conv=>whnf
   rw [hd]
   refine ⟨by rw [vints_len];exact ln 0x1041f1b184011b000000323111b1101120 rfl hl hdl,.inl ?_⟩
   refine ⟨⟨_,put_at⟩,?_⟩
   refine brb (fun hb=>?_) fun hb=>?_
   ·refine (c_downcased D ds (ln 0x1041f1b000003e83011b000000323111b1101120 rfl hl hdl)).up (by exact Nat.le_of_ble_eq_true rfl) _ _ _ ?_
    refine ⟨by exact Nat.le_of_ble_eq_true rfl,_,put_at,by rw [recs_len];exact ln 0x41f0b144011b000000c8399121101120 rfl hlen,?_⟩
    rw [put_put,recs_snoc]
    rw [if_pos hb] at this
    exact this
   ·refine ⟨by exact Nat.le_of_ble_eq_true rfl,_,put_at,by rw [recs_len];exact ln 0x41f0b144011b000000c8399121101120 rfl hlen,?_⟩
    rw [put_put,recs_snoc]
    rw [hb,if_neg (by exact Bool.noConfusion)] at this
    rw [hb];exact this
  rcases ih (fun q hq=>hw q (.tail _ hq)) (acc++[(V.int s,V.int e,V.lst (vints (if folds then ds.map downR else ds)))]) (some (.int s)) (some (.int e)) (some (.tup [.int fs,.int fe])) (some (.lst (vints ds))) (by simp;exact ln 0x41f1b000000c83911912011b000000c8399121101120 rfl hlen)
   (snoc_all ha ⟨s,e,_,hp.1,hp.2,rfl⟩) with ⟨acc',o3',o4',o5',o6',b1,b2,h⟩ | h
  ·exact .inl ⟨acc',o3',o4',o5',o6',by simp at b1;exact ln 0x8417c1f2b99122111012b9219121101130 rfl b1,b2,fun R N a H q=>turn R N a H (h R N a H q)⟩
  ·exact .inr fun R N a H q=>turn R N a H (h R N a H q)
theorem c_field_records (cs:List Int) (hl:cs.length≤50) (nb:Int) (folds:Bool):∃ v,(v=.none∨∃ ps:Recs,ps.length≤cs.length∧RecsOk cs.length ps∧v=.lst (ps.map recOf))∧Det g 11 273 [.lst (vints cs),.int nb,.bool folds] v:=by
 refine el_EAA (c_rows_between D cs (ln 0x41f1b000000643011b00000032301110 rfl hl)) fun rs r1 r2 hr=>?_
 rcases fldrec_loop D folds nb cs hl rs r2 [] none none none none (by simp;exact ln 0x1041f1b000000c83011b000000323111b1101120 rfl hl r1) (fun u0 h=>nomatch h) with ⟨ps,o3,o4,o5,o6,b1,b2,h⟩ | h
 ·refine (in_EA _ (.inr (in_EAA ps (by simp at b1;exact ln 0x21041f1b21011b21112b1101130 rfl r1 b1) (RecR.ok b2) rfl)) (fun Q X H q=>?_))
  refine D.field_records.w rfl ?_
  refine ⟨by exact Nat.zero_le _,.inr fun a ha=>?_⟩
  refine hr.up (by exact Nat.le_of_ble_eq_true rfl) _ _ _ ?_
  refine h _ _ a H ?_
  refine ⟨_,put_at,?_⟩
  rw [del_put ha];exact q
 ·refine (in_EA .none (.inl rfl) (fun Q X H q=>?_))
  refine CallW.drop (D.field_records.w rfl ?_)
  refine ⟨by exact Nat.zero_le _,.inr fun a ha=>?_⟩
  refine hr.up (by exact Nat.le_of_ble_eq_true rfl) _ _ _ ?_
  exact h _ _ a H fun o=>(in_EA H ((Sub.refl H).put ha) q)
theorem numrec_loop (nb:Int) (cs:List Int) (hl:cs.length≤50):∀ (rs:Pairs),Within cs.length rs→∀ (acc:Recs) (o3 o4 o5:Option V),acc.length+rs.length≤200→(∀ p∈acc,RecF cs.length p) →
  (∃ (acc':Recs) (o3' o4' o5':Option V),acc'.length=acc.length+rs.length∧(∀ p∈acc',RecF cs.length p) ∧
  ∀ (R:QV) (N:QN) (a:Addr) (H:Hp),N [some (.lst (vints cs)),some (.int nb),some (.ref a),o3',o4',o5',none,none,none] (put H a (.list (acc'.map recOf))) →
   loopW (LB g 9 [3,4] false (bodyOf m_number_records 1) R) (rowsV rs) [some (.lst (vints cs)),some (.int nb),some (.ref a),o3,o4,o5,none,none,none] N (put H a (.list (acc.map recOf)))) ∨
  (∀ (R:QV) (N:QN) (a:Addr) (H:Hp),(∀ o,R .none (put H a o))→loopW (LB g 9 [3,4] false (bodyOf m_number_records 1) R) (rowsV rs) [some (.lst (vints cs)),some (.int nb),some (.ref a),o3,o4,o5,none,none,none] N (put H a (.list (acc.map recOf)))):=by
 intro rs
 induction rs with
 | nil=>exact fun u0 acc o3 o4 o5 u0 h=>.inl (in_EEEEAA acc o3 o4 o5 (by simp) h (fun R N a H q=>q))
 | cons p rs ih=>
  intro hw acc o3 o4 o5 hlen ha
  obtain ⟨s,e⟩:=p
  simp only [List.length_cons] at hlen ⊢
  have hp:=hw _ (.head _)
  simp only at hp
  refine el_EA (c_field_at D cs (ln 0x41f1b000000643011b00000032301110 rfl hl) s e hp.1 hp.2 nb) fun v hv hf=>?_
  rcases hv with rfl | ⟨fs,fe,hfs,hfe,rfl⟩
  ·refine .inr fun R N a H q=>?_
   refine hf.up (by exact Nat.le_refl _) _ _ _ ?_
   exact brT (q _)
  obtain ⟨z,hz⟩:=c_number_at D cs hl fs fe hfs hfe
  have turn:∀ (R:QV) (N:QN) (a:Addr) (H:Hp),loopW (LB g 9 [3,4] false (bodyOf m_number_records 1) R) (rowsV rs) [some (.lst (vints cs)),some (.int nb),some (.ref a),some (.int s),some (.int e),some (.tup [.int fs,.int fe]),none,none,none] N
     (put H a (.list ((acc++[(V.int s,V.int e,V.int z)]).map recOf))) →
    loopW (LB g 9 [3,4] false (bodyOf m_number_records 1) R) (rowsV ((s,e)::rs)) [some (.lst (vints cs)),some (.int nb),some (.ref a),o3,o4,o5,none,none,none] N (put H a (.list (acc.map recOf))):=by
   intro R N a H this
   refine hf.up (by exact Nat.le_refl _) _ _ _ ?_
   refine brF ?_
   refine ⟨⟨_,put_at⟩,?_⟩
   refine ix (k:=0) rfl ?_
   refine ix (k:=1) rfl ?_
   refine hz.up (by exact Nat.le_of_ble_eq_true rfl) _ _ _ ?_
   refine ⟨by exact Nat.le_of_ble_eq_true rfl,_,put_at,by rw [recs_len];exact ln 0x41f0b144011b000000c8399121101120 rfl hlen,?_⟩
   rw [put_put,recs_snoc]
   exact this
  rcases ih (fun q hq=>hw q (.tail _ hq)) (acc++[(V.int s,V.int e,V.int z)]) (some (.int s)) (some (.int e)) (some (.tup [.int fs,.int fe])) (by simp;exact ln 0x41f1b000000c83911912011b000000c8399121101120 rfl hlen)
   (snoc_all ha (in_EEEAA s e _ hp.1 hp.2 rfl)) with ⟨acc',o3',o4',o5',b1,b2,h⟩ | h
  ·exact .inl (in_EEEEAA acc' o3' o4' o5' (by simp at b1;exact ln 0x8417c1f2b99122111012b9219121101130 rfl b1) b2 (fun R N a H q=>turn R N a H (h R N a H q)))
  ·exact .inr fun R N a H q=>turn R N a H (h R N a H q)
theorem c_number_records (cs:List Int) (hl:cs.length≤50) (nb:Int):∃ v,(v=.none∨∃ ps:Recs,ps.length≤cs.length∧RecsOk cs.length ps∧v=.lst (ps.map recOf))∧Det g 11 280 [.lst (vints cs),.int nb] v:=by
 obtain ⟨rs,r1,r2,hr⟩:=c_rows_between D cs (ln 0x41f1b000000643011b00000032301110 rfl hl)
 rcases numrec_loop D nb cs hl rs r2 [] none none none (by simp;exact ln 0x1041f1b000000c83011b000000323111b1101120 rfl hl r1) (fun u0 h=>nomatch h) with ⟨ps,o3,o4,o5,b1,b2,h⟩ | h
 ·refine ⟨_,.inr ⟨ps,by simp at b1;exact ln 0x21041f1b21011b21112b1101130 rfl r1 b1,RecF.ok b2,rfl⟩,fun Q X H q=>?_⟩
  refine D.number_records.w rfl ?_
  refine ⟨by decide,.inr fun a ha=>?_⟩
  refine hr.up (by decide) _ _ _ ?_
  refine h _ _ a H ?_
  refine ⟨_,put_at,?_⟩
  rw [del_put ha];exact q
 ·refine ⟨.none,.inl rfl,fun Q X H q=>?_⟩
  refine CallW.drop (D.number_records.w rfl ?_)
  refine ⟨by decide,.inr fun a ha=>?_⟩
  refine hr.up (by decide) _ _ _ ?_
  exact h _ _ a H fun o=>⟨H,(Sub.refl H).put ha,q⟩
end
end Mine
namespace Mine
theorem toPys_ints:∀ zs:List Int,toPys (vints zs)=some (zs.map PyData.int)
 | []=>rfl
 | z::zs=>by
  have:=toPys_ints zs
  unfold vints at this ⊢
  simp [toPys,toPy,this]
theorem toPy_ints (zs:List Int):toPy (.lst (vints zs))=some (.list (zs.map PyData.int)):=by simp [toPy,toPys_ints]
theorem eqw_ints {as bs:List Int} {k:Bool→Prop} (h:k (PyData.eqv (.list (as.map .int)) (.list (bs.map .int)))):EqW (.lst (vints as)) (.lst (vints bs)) k:=
 ⟨_,_,toPy_ints as,toPy_ints bs,ke_shaped_ints _,ke_shaped_ints _,h⟩
theorem eqvAll_refl:∀ zs:List Int,PyData.eqvAll (zs.map .int) (zs.map .int)=true
 | []=>by rfl
 | z::zs=>by simp [PyData.eqvAll,PyData.eqv,eqvAll_refl zs]
theorem eqv_refl (zs:List Int):PyData.eqv (.list (zs.map .int)) (.list (zs.map .int))=true:=by simp [PyData.eqv,eqvAll_refl]
noncomputable def pyL (z:List Int):PyData:=.list (z.map .int)
theorem toPys_rows:∀ zs:List (List Int),toPys (zs.map fun z=>V.lst (vints z))=some (zs.map pyL)
 | []=>rfl
 | z::zs=>by
  have:=toPys_rows zs
  simp [toPys,toPy_ints,this,pyL]
theorem layL:∀ zs:List (List Int),PyData.canLayAll0 (zs.map pyL)=true
 | []=>rfl
 | z::zs=>by simp [PyData.canLayAll0,pyL,PyData.canLay0,ke_canLayAll0];exact layL zs
theorem inw_rows {z:List Int} {zs:List (List Int)} {k:Bool→Prop} (h:k ((zs.map pyL).any fun d=>PyData.eqv d (pyL z))):InW (.lst (vints z)) (zs.map fun z=>V.lst (vints z)) k:=
 ⟨_,_,toPy_ints z,toPys_rows zs,layL zs,by simp [PyData.canLay0,ke_canLayAll0],by simp [PyData.depth,ke_depthAll];exact ln 0x41f1b000000403011b1201110 rfl (Nat.min_le_right _ _),h⟩
theorem inw_int {z:Int} {zs:List Int} {k:Bool→Prop} (h:k ((zs.map PyData.int).any fun d=>PyData.eqv d (.int z))):InW (.int z) (vints zs) k:=
 ⟨_,_,rfl,toPys_ints zs,ke_canLayAll0 zs,by simp [PyData.canLay0],by simp [PyData.depth],h⟩
theorem katRev_mem {α:Type} {b:Bool} {l:List α} {x:α} (h:x∈katRev b l):x∈l:=by
 unfold katRev at h;split at h
 ·exact List.mem_reverse.mp h
 ·exact h
theorem sorted_recs (lt:Nat→Nat→Bool) (b:Bool) (ps:Recs):∃ os:Recs,os.length=ps.length∧(∀ p∈os,p∈ps)∧sortedBy .none lt b (ps.map recOf)=os.map recOf:=by
 refine (in_EAA (katRev b ((sortPerm lt ps.length).map fun i=>(katRev b ps).getD i (.none,.none,.none))) ?_ (fun p hp=>?_) ?_)
 ·rw [kat_len,List.length_map,sortPerm_len]
 ·refine el_EA (List.mem_map.mp (katRev_mem hp)) fun i hi rf2=>?_;subst rf2
  have hl:=sortPerm_lt lt _ i hi
  have hl2:i < (katRev b ps).length:=by rw [kat_len];exact hl
  simp only [List.getD,List.getElem?_eq_getElem hl2,Option.getD_some]
  exact katRev_mem (List.getElem_mem hl2)
 ·unfold sortedBy
  rw [List.length_map]
  refine (congrArg (katRev b) ?_).trans (katRev_map recOf b _)
  rw [List.map_map]
  apply List.map_congr_left
  intro i hi
  have hl:=sortPerm_lt lt _ i hi
  have hl2:i < (katRev b ps).length:=by rw [kat_len];exact hl
  rw [katRev_map]
  simp [List.getD,List.getElem?_map,List.getElem?_eq_getElem hl2]
theorem vints_app (a b:List Int):vints a++vints b=vints (a++b):=by simp [vints]
theorem fs_le {f s N k B:Nat} (hf:f≤s*k) (hs:s≤N) (h:N*k≤B):f≤B:=Nat.le_trans hf (Nat.le_trans (Nat.mul_le_mul_right k hs) h)
section
variable {g:G} (D:Defs g)
include D
theorem c_ordered {m:Nat} {ps:Recs} (ok:RecsOk m ps) (h64:ps.length < 64) (b:Bool):∃ os:Recs,os.length=ps.length∧RecsOk m os∧Det g 3 238 [.lst (ps.map recOf),.bool b] (.lst (os.map recOf)):=by
 obtain ⟨h1,ks,hks⟩:=ok
 refine el_EAA (sorted_recs (ks.lt b) b ps) fun os o1 o2 o3=>?_
 refine (in_EAA os o1 ⟨fun p hp=>h1 p (o2 p hp),?_⟩ (fun Q X H q=>?_))
 ·have hk:∀ p∈os,p.2.2∈ks.vs:=fun p hp=>hks▸List.mem_map.mpr (in_EA p (o2 p hp) rfl)
  cases ks with
  | figs zs=>
   have:∀ l:List V,(∀ v∈l,v∈(Keys.figs zs).vs)→∃ ys:List Int,l=ys.map .int:=by
    intro l
    induction l with
    | nil=>exact fun u0=>⟨[],rfl⟩
    | cons v l ih=>
     intro h
     obtain ⟨ys,e⟩:=ih fun v hv=>h v (.tail _ hv)
     refine el_EA (List.mem_map.mp (h v (.head _))) fun y u0 hy=>?_
     exact ⟨y::ys,by rw [e,← hy];rfl⟩
   obtain ⟨ys,e⟩:=this (os.map fun p=>p.2.2) fun v hv=>by
    refine el_EA (List.mem_map.mp hv) fun p hp rf2=>?_;subst rf2;exact hk p hp
   exact ⟨.figs ys,e⟩
  | rows zs=>
   have:∀ l:List V,(∀ v∈l,v∈(Keys.rows zs).vs)→∃ ys:List (List Int),l=ys.map fun z=>.lst (vints z):=by
    intro l
    induction l with
    | nil=>exact fun u0=>⟨[],rfl⟩
    | cons v l ih=>
     intro h
     obtain ⟨ys,e⟩:=ih fun v hv=>h v (.tail _ hv)
     refine el_EA (List.mem_map.mp (h v (.head _))) fun y u0 hy=>?_
     exact ⟨y::ys,by rw [e,← hy];rfl⟩
   obtain ⟨ys,e⟩:=this (os.map fun p=>p.2.2) fun v hv=>by
    refine el_EA (List.mem_map.mp hv) fun p hp rf2=>?_;subst rf2;exact hk p hp
   exact ⟨.rows ys,e⟩
 ·refine D.ordered.w rfl ?_
  refine D.srt ps ks hks h64 b _ _ _ ?_
  rw [o3]
  exact ⟨by rw [recs_len];exact ln 0x21041f1b184010b000000403112b1101120 rfl h64 o1,.inl q⟩
theorem recs_get {m:Nat} {ps:Recs} (ok:RecsOk m ps) {k:Nat} (hk:k < ps.length):∃ (s e:Nat) (v:V),s≤m∧e≤m∧(ps.map recOf)[k]?=some (.tup [.int s,.int e,v]):=by
 refine el_EEEAA (ok.1 _ (List.getElem_mem hk)) fun s e v h1 h2 h3=>?_
 refine (in_EEEAA s e v h1 h2 ?_)
 rw [List.getElem?_map,List.getElem?_eq_getElem hk,h3];rfl
theorem order_loop (cs:List Int) (hl:cs.length≤60) (ps os:Recs) (rv:V) (hp:RecsOk cs.length ps) (ho:RecsOk cs.length os) (he:os.length=ps.length) (hn:ps.length≤60):∀ (n s:Nat),s+n=ps.length→∀ (fs:List Int) (a:Nat) (o6 o7 o8 o9:Option V),fs.length≤s*120→∃ (fs':List Int) (a':Nat) (o6' o7' o8' o9':Option V),fs'.length≤7200 ∧
  ∀ (R:QV) (N:QN) (f:Addr) (H:Hp),N [some (.lst (vints cs)),some (.lst (ps.map recOf)),some rv,some (.lst (os.map recOf)),some (.ref f),some (.int a'),o6',o7',o8',o9',none,none,none] (put H f (.list (vints fs'))) →
   loopW (RB g 6 6 (bodyOf m_put_in_order 3) R) (vr s n) [some (.lst (vints cs)),some (.lst (ps.map recOf)),some rv,some (.lst (os.map recOf)),some (.ref f),some (.int a),o6,o7,o8,o9,none,none,none] N (put H f (.list (vints fs))):=by
 intro n
 induction n with
 | zero=>exact fun s hs fs a o6 o7 o8 o9 hf=>(in_EE fs a ⟨o6,o7,o8,o9,fs_le hf (Nat.le_trans (Nat.le_of_eq hs) hn) (Nat.le_refl _),fun R N f H q=>q⟩)
 | succ n ih=>
  intro s hs fs a o6 o7 o8 o9 hf
  refine el_EEEAA (recs_get D hp (k:=s) (by exact ln 0x841f0b21012b2199121101130 rfl hs)) fun s1 e1 v1 h1 h2 h3=>?_
  refine el_EEEAA (recs_get D ho (k:=s) (by exact ln 0x217c1f0b31012b21312b2199121101140 rfl he hs)) fun s2 e2 v2 h4 h5 h6=>?_
  refine el_EA (vints_cut cs (some a) (some s1)) fun d1 d2 d3=>?_
  refine el_EA (vints_cut cs (some s2) (some e2)) fun c1 c2 c3=>?_
  refine el_EE (ih (s+1) (by exact ln 0x8417c1f2b21911912012b2199121101130 rfl hs) (fs++d1++c1) e1 (some (.int s)) (some (.int s1)) (some (.int e1)) (some v1) (by simp;exact ln 0x1041081f1b78891241990121311b0000003c3111b78841311b11211b1101150 rfl hl hf d3 c3)) fun fs' a' rt2=>?_;obtain ⟨o6',o7',o8',o9',b1,h⟩:=rt2
  refine (in_EE fs' a' ⟨o6',o7',o8',o9',b1,fun R N f H q=>?_⟩)
  rw [vr_succ]
  refine ix h3 ?_
  refine ⟨⟨_,put_at⟩,?_⟩
  conv=>whnf
  rw [d2]
  refine ⟨by rw [vints_len];exact ln 0x1041f1b184011b0000003c3111b1101120 rfl hl d3,.inl ?_⟩
  refine ⟨_,put_at,by rw [vints_len,vints_len];exact Nat.lt_of_le_of_lt (Nat.add_le_add (fs_le hf (Nat.le_trans (Nat.le_add_right s (n+1)) (Nat.le_trans (Nat.le_of_eq hs) hn)) (Nat.le_refl _)) (Nat.le_trans d3 hl)) (by decide),?_⟩
  rw [put_put,vints_app]
  refine ⟨⟨_,put_at⟩,?_⟩
  refine ix h6 ?_
  refine ix (k:=0) rfl ?_
  refine ix h6 ?_
  refine ix (k:=1) rfl ?_
  conv=>whnf
  rw [c2]
  refine ⟨by rw [vints_len];exact ln 0x1041f1b184011b0000003c3111b1101120 rfl hl c3,.inl ?_⟩
  refine ⟨_,put_at,by rw [vints_len,vints_len,List.length_append];exact Nat.lt_of_le_of_lt (Nat.add_le_add (Nat.add_le_add (fs_le hf (Nat.le_trans (Nat.le_add_right s (n+1)) (Nat.le_trans (Nat.le_of_eq hs) hn)) (Nat.le_refl _)) (Nat.le_trans d3 hl)) (Nat.le_trans c3 hl)) (by decide),?_⟩
  rw [put_put,vints_app]
  exact h R N f H q
theorem c_put_in_order (cs:List Int) (hl:cs.length≤60) {ps:Recs} (hp:RecsOk cs.length ps) (hn:ps.length≤60) (b:Bool):∃ ds:List Int,ds.length≤8000∧Det g 8 252 [.lst (vints cs),.lst (ps.map recOf),.bool b] (.lst (vints ds)):=by
 refine el_EAA (c_ordered D hp (by exact ln 0x41f0b000000403011b0000003c301110 rfl hn) b) fun os o1 o2 ho=>?_
 refine el_EE (order_loop D cs hl ps os (.bool b) hp o2 o1 hn ps.length 0 (by exact Nat.add_comm _ _) [] 0 none none none none (by exact Nat.le_refl _)) fun fs a' rt2=>?_;obtain ⟨o6,o7,o8,o9,b1,h⟩:=rt2
 refine el_EA (vints_cut cs (some a') none) fun d1 d2 d3=>?_
 refine (in_EA (fs++d1) (by simp;exact ln 0x41041f1b00001f403901211b0000003c3111b00001c203211b1101130 rfl hl b1 d3) (fun Q X H q=>?_))
 refine CallW.drop (D.put_in_order.w rfl ?_)
 refine ho.up (by exact Nat.le_of_ble_eq_true rfl) _ _ _ ?_
 refine ⟨by exact Nat.zero_le _,.inr fun a ha=>?_⟩
 refine (in_AA (by exact Nat.succ_pos _) (by rw [recs_len];exact ln 0x21041f0b3c4011b0000003c3112c611601120 rfl hn (Int.natAbs_of_nonneg (ln 0x1f1c60102110 rfl))) ?_)
 rw [recs_len,vr_of]
 refine h _ _ a H ?_
 conv=>whnf
 rw [d2]
 refine ⟨by rw [vints_len];exact ln 0x1041f1b184011b0000003c3111b1101120 rfl hl d3,.inl ?_⟩
 refine ⟨_,put_at,?_⟩
 conv=>whnf
 rw [vints_app]
 exact ⟨by rw [vints_len];simp;exact ln 0x41041f1b010000003901211b0000003c3111b00001c203211b1101130 rfl hl b1 d3,.inl (in_EA H ((Sub.refl H).put ha) q)⟩
theorem turned_loop (cs:List Int) (hl:cs.length≤60) (rs:Pairs) (hw:Within cs.length rs) (hn:rs.length≤60):∀ (n s:Nat),s+n=rs.length→∀ (fs:List Int) (a:Nat) (o4 o5 o6 o7:Option V),fs.length≤s*120→∃ (fs':List Int) (a':Nat) (o4' o5' o6' o7':Option V),fs'.length≤7200 ∧
  ∀ (R:QV) (N:QN) (f:Addr) (H:Hp),N [some (.lst (vints cs)),some (.lst (rowsV rs)),some (.ref f),some (.int a'),o4',o5',o6',o7',none,none,none] (put H f (.list (vints fs'))) →
   loopW (RB g 6 4 (bodyOf m_rows_turned 3) R) (vr s n) [some (.lst (vints cs)),some (.lst (rowsV rs)),some (.ref f),some (.int a),o4,o5,o6,o7,none,none,none] N (put H f (.list (vints fs))):=by
 intro n
 induction n with
 | zero=>exact fun s hs fs a o4 o5 o6 o7 hf=>(in_EE fs a ⟨o4,o5,o6,o7,fs_le hf (Nat.le_trans (Nat.le_of_eq hs) hn) (Nat.le_refl _),fun R N f H q=>q⟩)
 | succ n ih=>
  intro s hs fs a o4 o5 o6 o7 hf
  refine el_EA (get_pair (r:=rs) (k:=s) (by exact ln 0x841f0b21012b2199121101130 rfl hs)) fun p hp hpm=>?_
  refine el_EA (get_pair (r:=rs) (k:=rs.length - 1 - s) (by exact ln 0x21841f0b11212b01931212b1191201140 rfl (Nat.sub_add_cancel (ln 0x1f841f1b01212b11991231212b1191201140 rfl hs (Nat.sub_add_cancel (ln 0x841f1b21122b2199121101130 rfl hs)))) (Nat.sub_add_cancel (ln 0x841f1b21122b2199121101130 rfl hs)))) fun q hq hqm=>?_
  refine el_EA (vints_cut cs (some a) (some p.1)) fun d1 d2 d3=>?_
  refine el_EA (vints_cut cs (some q.1) (some q.2)) fun c1 c2 c3=>?_
  refine el_EE (ih (s+1) (by exact ln 0x8417c1f2b21911912012b2199121101130 rfl hs) (fs++d1++c1) p.2 (some (.int s)) (some (.int p.1)) (some (.int p.2)) (some (.tup [.int q.1,.int q.2])) (by simp;exact ln 0x1041081f1b78891241990121311b0000003c3111b78841311b11211b1101150 rfl hl hf d3 c3)) fun fs' a' rt2=>?_;obtain ⟨o4',o5',o6',o7',b1,h⟩:=rt2
  refine (in_EE fs' a' ⟨o4',o5',o6',o7',b1,fun R N f H qq=>?_⟩)
  rw [vr_succ]
  refine ix (rowsV_get hp) ?_
  conv=>whnf
  rw [show ((rowsV rs).length:Int) - 1 - s=((rs.length - 1 - s:Nat):Int) by rw [rowsV_len];exact ln 0x7df061841f2c621a631a126112b01931212b1191201140 rfl (Nat.sub_add_cancel (ln 0x1f841f1b01212b11991231212b1191201140 rfl hs (Nat.sub_add_cancel (ln 0x841f1b21122b2199121101130 rfl hs)))) (Nat.sub_add_cancel (ln 0x841f1b21122b2199121101130 rfl hs))]
  refine ix (rowsV_get hq) ?_
  refine ⟨⟨_,put_at⟩,?_⟩
  conv=>whnf
  rw [d2]
  refine ⟨by rw [vints_len];exact ln 0x1041f1b184011b0000003c3111b1101120 rfl hl d3,.inl ?_⟩
  refine ⟨_,put_at,by rw [vints_len,vints_len];exact Nat.lt_of_le_of_lt (Nat.add_le_add (fs_le hf (Nat.le_trans (Nat.le_add_right s (n+1)) (Nat.le_trans (Nat.le_of_eq hs) hn)) (Nat.le_refl _)) (Nat.le_trans d3 hl)) (by decide),?_⟩
  rw [put_put,vints_app]
  refine ⟨⟨_,put_at⟩,?_⟩
  refine ix (k:=0) rfl ?_
  refine ix (k:=1) rfl ?_
  conv=>whnf
  rw [c2]
  refine ⟨by rw [vints_len];exact ln 0x1041f1b184011b0000003c3111b1101120 rfl hl c3,.inl ?_⟩
  refine ⟨_,put_at,by rw [vints_len,vints_len,List.length_append];exact Nat.lt_of_le_of_lt (Nat.add_le_add (Nat.add_le_add (fs_le hf (Nat.le_trans (Nat.le_add_right s (n+1)) (Nat.le_trans (Nat.le_of_eq hs) hn)) (Nat.le_refl _)) (Nat.le_trans d3 hl)) (Nat.le_trans c3 hl)) (by decide),?_⟩
  rw [put_put,vints_app]
  exact h R N f H qq
theorem c_rows_turned (cs:List Int) (hl:cs.length≤60):∃ ds:List Int,ds.length≤8000∧Det g 8 294 [.lst (vints cs)] (.lst (vints ds)):=by
 refine el_EAA (c_rows_between D cs (by exact ln 0x41f1b000000643011b0000003c301110 rfl hl)) fun rs r1 r2 hr=>?_
 refine el_EE (turned_loop D cs hl rs r2 (by exact Nat.le_trans (by assumption) (by assumption)) rs.length 0 (by exact Nat.add_comm _ _) [] 0 none none none none (by exact Nat.le_refl _)) fun fs a' rt2=>?_;obtain ⟨o6,o7,o8,o9,b1,h⟩:=rt2
 refine el_EA (vints_cut cs (some a') none) fun d1 d2 d3=>?_
 refine (in_EA (fs++d1) (by simp;exact ln 0x41041f1b00001f403901211b0000003c3111b00001c203211b1101130 rfl hl b1 d3) (fun Q X H q=>?_))
 refine CallW.drop (D.rows_turned.w rfl ?_)
 refine hr.up (by exact Nat.le_of_ble_eq_true rfl) _ _ _ ?_
 refine ⟨by exact Nat.zero_le _,.inr fun a ha=>?_⟩
 refine (in_AA (by exact Nat.succ_pos _) (by rw [rowsV_len];exact ln 0x841041f0b3c4011b0000003c3211b21112c611601130 rfl hl r1 (Int.natAbs_of_nonneg (ln 0x1f1c60102110 rfl))) ?_)
 rw [rowsV_len,vr_of]
 refine h _ _ a H ?_
 conv=>whnf
 rw [d2]
 refine ⟨by rw [vints_len];exact ln 0x1041f1b184011b0000003c3111b1101120 rfl hl d3,.inl ?_⟩
 refine ⟨_,put_at,?_⟩
 conv=>whnf
 rw [vints_app]
 exact ⟨by rw [vints_len];simp;exact ln 0x41041f1b010000003901211b0000003c3111b00001c203211b1101130 rfl hl b1 d3,.inl (in_EA H ((Sub.refl H).put ha) q)⟩
end
end Mine
namespace Mine
noncomputable def lv (z:List Int):V:=.lst (vints z)
theorem put2 {α:Type} {f:Addr→Option α} {a b:Addr} {x x' y:α} (h:a≠b):put (put (put f a x) b y) a x'=put (put f a x') b y:=by
 rw [put_comm (Ne.symm h),put_put]
theorem dput_len (k:Int) (v:V) (es:List (Int × V)):(dput k v es).length≤es.length+1:=by
 unfold dput;split<;>simp
noncomputable def ordV (l:List Nat):List V:=l.map fun k:Nat=>V.int k
theorem lv_get {tx:List (List Int)} {k:Nat} {z:List Int} (h:tx[k]?=some z):(tx.map lv)[k]?=some (.lst (vints z)):=by
 rw [List.getElem?_map,h];rfl
theorem lv_snoc (kn:List (List Int)) (z:List Int):kn.map lv++[.lst (vints z)]=(kn++[z]).map lv:=by simp [lv]
theorem inw_lv {z:List Int} {zs:List (List Int)} {k:Bool→Prop} (h:k ((zs.map pyL).any fun d=>PyData.eqv d (pyL z))):InW (.lst (vints z)) (zs.map lv) k:=inw_rows h
section
variable {g:G} (D:Defs g)
include D
noncomputable abbrev WD (c0 c1 c2 c3 c6 c7:V) (a:Addr) (k:V) (o4 o5 o10 o11:Option V):Loc:=[some c0,some c1,some c2,some c3,o4,o5,some c6,some c7,some (.ref a),some k,o10,o11,none,none,none,none]
theorem wd_loop2 (c0 c1 c3 c7:V) (tx:List (List Int)):∀ (ord:List Nat),(∀ k∈ord,k < tx.length)→∀ (es:List (Int × V)) (kn:List (List Int)) (o10:Option V),es.length+ord.length≤100→kn.length+ord.length≤100→∃ (es':List (Int × V)) (kn':List (List Int)) (o10':Option V),es'.length≤100 ∧
  ∀ (R:QV) (N:QN) (a b:Addr) (H:Hp),a≠b→N (WD c0 c1 (.bool false) c3 (.lst (tx.map lv)) c7 a (.ref b) none none o10' none) (put (put H a (.dict es')) b (.list (kn'.map lv))) →
   loopW (LB g 6 [10] true (bodyOf m_without_doubles 6) R) (ordV ord) (WD c0 c1 (.bool false) c3 (.lst (tx.map lv)) c7 a (.ref b) none none o10 none) N (put (put H a (.dict es)) b (.list (kn.map lv))):=by
 intro ord
 induction ord with
 | nil=>exact fun u0 es kn o10 h1 h2=>(in_EEEA es kn o10 (by simp at h1;exact h1) (fun R N a b H ab q=>q))
 | cons k ord ih=>
  intro ho es kn o10 h1 h2
  simp only [List.length_cons] at h1 h2
  have hk:=ho k (.head _)
  obtain ⟨z,hz⟩:∃ z,tx[k]?=some z:=⟨_,List.getElem?_eq_getElem hk⟩
  by_cases hin:((kn.map pyL).any fun d=>PyData.eqv d (pyL z))=true
  ·have:=dput_len k (.bool true) es
   refine el_EEEA (ih (fun q hq=>ho q (.tail _ hq)) (dput k (.bool true) es) kn (some (.int k)) (ln 0x1041f1b000000643921011b000000643991221111b9121101130 rfl h1 this) (ln 0x41f1b000000643911011b00000064399121101120 rfl h2)) fun es' kn' o10' b1 h=>?_
   refine (in_EEEA es' kn' o10' b1 (fun R N a b H ab q=>?_))
   refine ix (lv_get hz) ?_
   refine ⟨_,put_at,inw_lv ?_⟩
   rw [hin]
   refine brT ?_
   refine ⟨es,by exact (put_ne (by assumption)).trans put_at,ln 0x41f0b000003e83011b00000064399121101120 rfl h1,?_⟩
   rw [put2 ab]
   exact h R N a b H ab q
  ·refine el_EEEA (ih (fun q hq=>ho q (.tail _ hq)) es (kn++[z]) (some (.int k)) (ln 0x41f1b000000643911011b00000064399121101120 rfl h1) (by simp;exact ln 0x41f1b000000643911912011b00000064399121101120 rfl h2)) fun es' kn' o10' b1 h=>?_
   refine (in_EEEA es' kn' o10' b1 (fun R N a b H ab q=>?_))
   refine ix (lv_get hz) ?_
   refine ⟨_,put_at,inw_lv ?_⟩
   rw [show ((kn.map pyL).any fun d=>PyData.eqv d (pyL z))=false by simpa using hin]
   refine brF ?_
   refine brF ?_
   refine ⟨⟨_,put_at⟩,?_⟩
   refine ix (lv_get hz) ?_
   refine ⟨_,put_at,by simp;exact ln 0x41f0b001000003011b00000064399121101120 rfl h2,?_⟩
   rw [put_put,lv_snoc]
   exact h R N a b H ab q
theorem wd_loop1 (c0 c1 c3 c7:V) (tx:List (List Int)):∀ (ord:List Nat),(∀ k∈ord,k < tx.length)→∀ (es:List (Int × V)) (kn:List (List Int)) (o10:Option V),es.length+ord.length≤100→∃ (es':List (Int × V)) (kn':List (List Int)) (o10':Option V),es'.length≤100 ∧
  ∀ (R:QV) (N:QN) (a:Addr) (H:Hp),N (WD c0 c1 (.bool true) c3 (.lst (tx.map lv)) c7 a (.lst (kn'.map lv)) none none o10' none) (put H a (.dict es')) →
   loopW (LB g 6 [10] true (bodyOf m_without_doubles 6) R) (ordV ord) (WD c0 c1 (.bool true) c3 (.lst (tx.map lv)) c7 a (.lst (kn.map lv)) none none o10 none) N (put H a (.dict es)):=by
 intro ord
 induction ord with
 | nil=>exact fun u0 es kn o10 h1=>(in_EEEA es kn o10 (by simp at h1;exact h1) (fun R N a H q=>q))
 | cons k ord ih=>
  intro ho es kn o10 h1
  simp only [List.length_cons] at h1
  have hk:=ho k (.head _)
  obtain ⟨z,hz⟩:∃ z,tx[k]?=some z:=⟨_,List.getElem?_eq_getElem hk⟩
  by_cases hin:((kn.map pyL).any fun d=>PyData.eqv d (pyL z))=true
  ·have:=dput_len k (.bool true) es
   refine el_EEEA (ih (fun q hq=>ho q (.tail _ hq)) (dput k (.bool true) es) kn (some (.int k)) (ln 0x1041f1b000000643921011b000000643991221111b9121101130 rfl h1 this)) fun es' kn' o10' b1 h=>?_
   refine (in_EEEA es' kn' o10' b1 (fun R N a H q=>?_))
   refine ix (lv_get hz) ?_
   refine inw_lv ?_
   rw [hin]
   refine brT ?_
   refine ⟨es,put_at,ln 0x41f0b000003e83011b00000064399121101120 rfl h1,?_⟩
   rw [put_put]
   exact h R N a H q
  ·refine el_EEEA (ih (fun q hq=>ho q (.tail _ hq)) es [z] (some (.int k)) (ln 0x41f1b000000643911011b00000064399121101120 rfl h1)) fun es' kn' o10' b1 h=>?_
   refine (in_EEEA es' kn' o10' b1 (fun R N a H q=>?_))
   refine ix (lv_get hz) ?_
   refine inw_lv ?_
   rw [show ((kn.map pyL).any fun d=>PyData.eqv d (pyL z))=false by simpa using hin]
   refine brF ?_
   refine brT ?_
   refine ix (lv_get hz) ?_
   refine ⟨by exact Nat.succ_pos _,.inl ?_⟩
   exact h R N a H q
theorem wd_loop3 (cs:List Int) (hl:cs.length≤60) (c1 c2 c6 c7:V) (rs:Pairs) (hw:Within cs.length rs) (hn:rs.length≤60) (es:List (Int × V)):∀ (n s:Nat),s+n=rs.length→∀ (fs:List Int) (o4 o5 o10:Option V),fs.length≤s*60→∃ (fs':List Int) (o4' o5' o10':Option V),fs'.length≤3600 ∧
  ∀ (R:QV) (N:QN) (a c:Addr) (kv:V) (H:Hp),H a=some (.dict es)→a≠c→N (WD (.lst (vints cs)) c1 c2 (.lst (rowsV rs)) c6 c7 a kv o4' o5' o10' (some (.ref c))) (put H c (.list (vints fs'))) →
   loopW (RB g 6 10 (bodyOf m_without_doubles 8) R) (vr s n) (WD (.lst (vints cs)) c1 c2 (.lst (rowsV rs)) c6 c7 a kv o4 o5 o10 (some (.ref c))) N (put H c (.list (vints fs))):=by
 intro n
 induction n with
 | zero=>exact fun s hs fs o4 o5 o10 hf=>(in_EEEEA fs o4 o5 o10 (fs_le hf (Nat.le_trans (Nat.le_of_eq hs) hn) (Nat.le_refl _)) (fun R N a c kv H ha ac q=>q))
 | succ n ih=>
  intro s hs fs o4 o5 o10 hf
  refine el_EA (get_pair (r:=rs) (k:=s) (ln 0x841f0b21012b2199121101130 rfl hs)) fun p hp hpm=>?_
  refine el_EA (vints_cut cs (some p.1) (some ((p.2:Int)+1))) fun d1 d2 d3=>?_
  by_cases hin:(dlook s es).isSome=true
  ·refine el_EEEEA (ih (s+1) (ln 0x8417c1f2b21911912012b2199121101130 rfl hs) fs o4 o5 (some (.int s)) (ln 0x41f1b3c891211011b3c81101120 rfl hf)) fun fs' o4' o5' o10' b1 h=>?_
   refine (in_EEEEA fs' o4' o5' o10' b1 (fun R N a c kv H ha ac q=>?_))
   rw [vr_succ]
   refine ⟨es,by exact (put_ne (by assumption)).trans (by assumption),?_⟩
   rw [hin]
   refine brF ?_
   exact h R N a c kv H ha ac q
  ·refine el_EEEEA (ih (s+1) (ln 0x8417c1f2b21911912012b2199121101130 rfl hs) (fs++d1) (some (.int p.1)) (some (.int p.2)) (some (.int s)) (by simp;exact ln 0x41041f1b3c891231901211b0000003c3111b3c831211b1101140 rfl hl hf d3)) fun fs' o4' o5' o10' b1 h=>?_
   refine (in_EEEEA fs' o4' o5' o10' b1 (fun R N a c kv H ha ac q=>?_))
   rw [vr_succ]
   refine ⟨es,by exact (put_ne (by assumption)).trans (by assumption),?_⟩
   rw [show (dlook s es).isSome=false by simpa using hin]
   refine brT ?_
   refine ix (rowsV_get hp) ?_
   refine ⟨⟨_,put_at⟩,?_⟩
   conv=>whnf
   rw [d2]
   refine ⟨by rw [vints_len];exact ln 0x1041f1b184011b0000003c3111b1101120 rfl hl d3,.inl ?_⟩
   refine ⟨_,put_at,by rw [vints_len,vints_len];exact Nat.lt_of_le_of_lt (Nat.add_le_add (fs_le hf (Nat.le_trans (Nat.le_add_right s (n+1)) (Nat.le_trans (Nat.le_of_eq hs) hn)) (Nat.le_refl _)) (Nat.le_trans d3 hl)) (by decide),?_⟩
   rw [put_put,vints_app]
   exact h R N a c kv H ha ac q
theorem texts_of (cs:List Int):∀ rs:Pairs,∃ tx:List (List Int),tx.length=rs.length∧(∀ z∈tx,z.length≤cs.length)∧(rowsV rs).map (fun v=>match v with
  | .tup [.int s,.int e]=>.lst (cut (vints cs) (some s) (some e))
  | v=>v)=tx.map lv
 | []=>(in_EAA ([]) rfl (fun u0 h=>(nomatch h)) rfl)
 | p::rs=>by
  refine el_EAA (texts_of cs rs) fun tx h1 h2 h3=>?_
  refine el_EA (vints_cut cs (some p.1) (some p.2)) fun d e1 e2=>?_
  refine (in_EAA (d::tx) (by exact congrArg _ h1) (fun z hz=>?_) ?_)
  ·rcases List.mem_cons.mp hz with rfl | hz
   ·exact e2
   ·exact h2 z hz
  ·show V.lst (cut (vints cs) (some p.1) (some p.2))::_=lv d::tx.map lv
   rw [e1];exact congrArg _ h3
theorem c_without_doubles (cs:List Int) (hl:cs.length≤60) (b1 b2:Bool):∃ (ds:List Int) (m:Nat),ds.length≤8000∧Det g 8 299 [.lst (vints cs),.bool b1,.bool b2] (.tup [.lst (vints ds),.int m]):=by
 refine el_EAA (c_rows_between D cs (ln 0x41f1b000000643011b0000003c301110 rfl hl)) fun rs r1 r2 hr=>?_
 refine el_EAA (texts_of D cs rs) fun tx t1 t2 t3=>?_
 refine el_EA (show ∃ ord:List Nat,(∀ k∈ord,k < tx.length)∧ord.length=rs.length∧ordV ord=if b1 then (vr 0 rs.length).reverse else vr 0 rs.length from by
  refine (in_EAA (if b1 then (List.range' 0 rs.length).reverse else List.range' 0 rs.length) (fun k hk=>?_) ?_ ?_)
  ·have:k∈List.range' 0 rs.length:=by
    split at hk
    ·exact List.mem_reverse.mp hk
    ·exact hk
   rw [List.mem_range'] at this
   refine el_EA this fun i hi rf2=>?_;subst rf2
   exact ln 0x17c1f0b21901701022b11210b1101130 rfl t1 hi
  ·split<;>simp
  ·unfold ordV vr;split
   ·rw [List.map_reverse]
   ·rfl) fun ord o1 o2=>?_
 obtain ⟨o2,o3⟩:=o2
 -- from the turn over the order on
 have fin:∀ (c7:V) (es:List (Int × V)) (o10:Option V),es.length≤100→∃ (ds:List Int),ds.length≤8000∧∀ (kv:V) (Q:QV) (X:QX) (a:Addr) (H:Hp),H a=some (.dict es)→Q (.tup [.lst (vints ds),.int es.length]) H →
   wSs g 7 [.asg 11 (.lst (.nil)),.forR 10 (.int 0) (.bcall .len (.cons (.var 3) (.nil))) (bodyOf m_without_doubles 8),.ret (.tup (.cons (.frz 11) (.cons (.bcall .len (.cons (.var 8) (.nil))) (.nil))))]
    (WD (.lst (vints cs)) (.bool b1) (.bool b2) (.lst (rowsV rs)) (.lst (tx.map lv)) c7 a kv none none o10 none) (fun u0 H=>Q .none H) Q X H:=by
  intro c7 es o10 hes
  refine el_EEEEA (wd_loop3 D cs hl (.bool b1) (.bool b2) (.lst (tx.map lv)) c7 rs r2 (ln 0x1041f1b0000003c3011b0000003c3111b1101120 rfl hl r1) es rs.length 0 (ln 0x41f2b0190102110 rfl) [] none none o10 (by exact Nat.le_refl _)) fun fs o4 o5 o10' f1 h=>?_
  refine (in_EA fs (ln 0x41f1b00001f403011b00000e10301110 rfl f1) (fun kv Q X a H ha q=>?_))
  refine ⟨by exact Nat.zero_le _,.inr fun c hc=>?_⟩
  refine (in_AA (by exact Nat.succ_pos _) (by rw [rowsV_len];exact ln 0x841041f0b3c4011b0000003c3211b21112c611601130 rfl hl r1 (Int.natAbs_of_nonneg (ln 0x1f1c60102110 rfl))) ?_)
  rw [rowsV_len,vr_of]
  have ac:a≠c:=fun e=>by rw [e,hc] at ha;trivial
  refine h _ _ a c kv H ha ac ?_
  refine ⟨_,put_at,?_⟩
  rw [del_put hc]
  exact .inr ⟨es,ha,by exact Nat.le_of_ble_eq_true rfl,q⟩
 -- up to it
 have upto:∀ (Q:QV) (X:QX) (H:Hp),(∀ a c7,H a=none→c7=.lst (ordV ord)→wSs g 7 [.asg 9 (.lst (.nil)),.forL [10] true (.var 7) (bodyOf m_without_doubles 6),.asg 11 (.lst (.nil)),.forR 10 (.int 0) (.bcall .len (.cons (.var 3) (.nil))) (bodyOf m_without_doubles 8),.ret (.tup (.cons (.frz 11) (.cons (.bcall .len (.cons (.var 8) (.nil))) (.nil))))]
    [some (.lst (vints cs)),some (.bool b1),some (.bool b2),some (.lst (rowsV rs)),none,none,some (.lst (tx.map lv)),some c7,some (.ref a),none,none,none,none,none,none,none] (fun u0 H=>Q .none H) Q X (put H a (.dict [])))→CallW g 8 299 [.lst (vints cs),.bool b1,.bool b2] Q X H:=by
  intro Q X H w
  refine D.without_doubles.w rfl ?_
  refine hr.up (by exact Nat.le_of_ble_eq_true rfl) _ _ _ ?_
  intro a ha
  refine comp_pure (fun v=>match v with
  | .tup [.int s,.int e]=>.lst (cut (vints cs) (some s) (some e))
  | v=>v) (rowsV rs) [] (fun x hx Q' H' q'=>?_) (by rw [rowsV_len];simp;exact ln 0x1041f0b001000003011b0000003c3111b1101120 rfl hl r1) ?_
  ·refine el_EA (List.mem_map.mp hx) fun p hp rf2=>?_;subst rf2
   refine el_EA (vints_cut cs (some p.1) (some p.2)) fun d e1 e2=>?_
   refine ⟨?_,.inl q'⟩
   rw [e1,vints_len];exact ln 0x1041f1b184011b0000003c3111b1101120 rfl hl e2
  ·refine .inr ⟨_,put_at,?_⟩
   rw [del_put ha,List.nil_append,t3]
   conv=>whnf
   rw [rowsV_len]
   refine ⟨ln 0x1f1c60102110 rfl,?_,.inl ?_⟩
   ·show (vints (rangeL 0 (rs.length:Int))).length≤_
    rw [vr_of];simp [vr];exact ln 0x1041f1b010000003011b0000003c3111b1101120 rfl hl r1
   ·show wSs g 7 _ _ _ _ _ _
    rw [show (rangeL 0 (rs.length:Int)).map V.int=vr 0 rs.length from vr_of _]
    refine brb (fun hb=>?_) fun hb=>?_
    ·refine ⟨by simp [vr];exact ln 0x1041f1b010000003011b0000003c3111b1101120 rfl hl r1,.inl ?_⟩
     refine ⟨fun a2 ha2=>?_⟩
     rw [if_pos hb] at o3
     exact w a2 _ ha2 (by exact o3▸rfl)
    ·refine ⟨fun a2 ha2=>?_⟩
     rw [hb,if_neg (by exact Bool.noConfusion)] at o3
     exact w a2 _ ha2 (by exact o3▸rfl)
 cases b2 with
 | true=>
  refine el_EEEA (wd_loop1 D (.lst (vints cs)) (.bool b1) (.lst (rowsV rs)) (.lst (ordV ord)) tx ord o1 [] [] none (by simp;exact ln 0x841041f1b000000643011b0000003c3211b21112b1101130 rfl hl r1 o2)) fun es kn o10 e1 h=>?_
  refine el_EA (fin (.lst (ordV ord)) es o10 e1) fun ds d1 hf=>?_
  refine (in_EEA ds es.length d1 (fun Q X H q=>?_))
  refine CallW.drop (upto _ _ _ fun a c7 ha hc=>?_)
  subst hc
  refine ⟨by exact Nat.zero_le _,.inl ?_⟩
  refine h _ _ a H ?_
  exact hf _ _ _ a _ put_at (in_EA H ((Sub.refl H).put ha) q)
 | false=>
  refine el_EEEA (wd_loop2 D (.lst (vints cs)) (.bool b1) (.lst (rowsV rs)) (.lst (ordV ord)) tx ord o1 [] [] none (by simp;exact ln 0x841041f1b000000643011b0000003c3211b21112b1101130 rfl hl r1 o2) (by simp;exact ln 0x841041f1b000000643011b0000003c3211b21112b1101130 rfl hl r1 o2)) fun es kn o10 e1 h=>?_
  refine el_EA (fin (.lst (ordV ord)) es o10 e1) fun ds d1 hf=>?_
  refine (in_EEA ds es.length d1 (fun Q X H q=>?_))
  refine CallW.drop (upto _ _ _ fun a c7 ha hc=>?_)
  subst hc
  refine ⟨by exact Nat.zero_le _,.inr fun b hb=>?_⟩
  have ab:a≠b:=fun e=>by rw [← e,put_at] at hb;trivial
  refine h _ _ a b H ab ?_
  refine hf _ _ _ a _ (by exact (put_ne (by assumption)).trans put_at) (in_EA H (((Sub.refl H).put ha).put ?_) q)
  rw [put_ne (Ne.symm ab)] at hb;exact hb
end
end Mine
namespace Mine
theorem spliceL_nat {xs ys:List V} {l u:Int} {i j:Nat} (hl:l=i) (hu:u=j) (hij:i≤j) (hj:j≤xs.length):spliceL xs ys l u=xs.take i++ys++xs.drop j:=by
 subst hl hu
 unfold spliceL
 have h1:kms_lo (some (i:Int)) xs.length=i:=by
  unfold kms_lo
  simp only [Int.toNat_natCast]
  rw [if_neg (by exact ln 0x1f8c02601110 rfl)];exact ln 0x8417c1f2b11012b1101120 rfl (Nat.min_eq_left (ln 0x1041f1b11211b01211b1101130 rfl hij hj))
 have h2:kms_hi (some (j:Int)) xs.length=j:=by
  unfold kms_hi
  simp only [Int.toNat_natCast]
  rw [if_neg (by exact ln 0x1f8c02601110 rfl)];exact ln 0x8417c1f2b11012b1101120 rfl (Nat.min_eq_left hj)
 rw [h1,h2,Nat.max_eq_right hij]
theorem vcut {l:List Int} {a b:Int} {i j:Nat} (ha:a=i) (hb:b=j):cut (vints l) (some a) (some b)=vints ((l.drop i).take (j - i)):=by
 subst ha hb;rw [cut_nat];unfold vints;rw [List.map_take,List.map_drop]
noncomputable def gapF (c:Addr) (gs ge:Nat):List (Nat × V):=[(20,.int 8),(21,.ref c),(22,.int gs),(23,.int ge)]
structure GapS (t c:Addr) (A G B:List Int) (H:Hp):Prop where
 ne:t≠c
 it:H t=some (.inst cGap (gapF c A.length (A.length+G.length)))
 ic:H c=some (.list (vints (A++G++B)))
noncomputable def Fr (l:List Addr) (H H':Hp):Prop:=∀ x,x∉l→H' x=H x
theorem Fr.refl (l:List Addr) (H:Hp):Fr l H H:=fun u0 u0=>rfl
theorem Fr.trans {l:List Addr} {H H' H'':Hp} (x:Fr l H H') (y:Fr l H' H''):Fr l H H'':=fun a h=>(y a h).trans (x a h)
theorem Fr.put {l:List Addr} {H H':Hp} (x:Fr l H H') {a:Addr} {o:O} (ha:a∈l):Fr l H (put H' a o):=fun b h=>by
 rw [put_ne (fun e=>h (by rw [e];exact ha))];exact x b h
theorem Fr.more {l l':List Addr} {H H':Hp} (x:Fr l H H') (s:∀ a∈l,a∈l'):Fr l' H H':=fun b h=>x b fun q=>h (s b q)
theorem GapS.of {t c:Addr} {A G B:List Int} {H:Hp} (ne:t≠c):GapS t c A G B (put (put H c (.list (vints (A++G++B)))) t (.inst cGap (gapF c A.length (A.length+G.length)))):=
 ⟨ne,put_at,by exact (put_ne (Ne.symm (by assumption))).trans put_at⟩
theorem GapS.of' {t c:Addr} {A G B:List Int} {H H':Hp} {xs:List V} {fs:List (Nat × V)} (ne:t≠c) (e:H'=put (put H c (.list xs)) t (.inst cGap fs)) (hx:xs=vints (A++G++B)) (hf:fs=gapF c A.length (A.length+G.length)):GapS t c A G B H':=by
 subst e hx hf;exact .of ne
theorem gapF_eq {c:Addr} {a b:Int} {gs ge:Nat} (ha:a=gs) (hb:b=ge):[(20,V.int 8),(21,V.ref c),(22,V.int a),(23,V.int b)]=gapF c gs ge:=by subst ha hb;rfl
theorem drop_ge {X Y:List Int} {n m:Nat} (h:n=X.length+m):(X++Y).drop n=Y.drop m:=by
 rw [List.drop_append,List.drop_eq_nil_of_le (by exact ln 0x7c1f1b01112b9211101130 rfl h),List.nil_append];congr 1;exact ln 0x86105f7c1f2b31012b93111212b2191101140 rfl h (Nat.sub_add_cancel (ln 0x7c1f1b01112b9211101130 rfl h))
theorem drop_take_left (A R:List Int) (k:Nat) (h:k≤A.length):((A++R).drop k).take (A.length - k)=A.drop k:=by
 rw [List.drop_append_of_le_length h,List.take_left' (by simp)]
theorem len_ne {ys:List Int} (h:0 < ys.length):¬ (((vints ys).length:Nat):Int)=0:=by
 rw [vints_len];exact fun e=>Nat.lt_irrefl 0 (Int.ofNat.inj e▸h)
theorem seg_m {l:List Int} {s n M:Nat} (h:l.length≤M):((l.drop s).take n).length≤M:=Nat.le_trans (List.length_take_le' _ _) (Nat.le_trans (List.length_drop▸Nat.sub_le _ _) h)
theorem seg_n {l:List Int} {s n M N:Nat} (h:l.length≤M) (h2:M≤N):(vints ((l.drop s).take n)).length≤N:=by
 rw [vints_len];exact Nat.le_trans (seg_m h) h2
section
variable {g:G} (D:Defs g)
include D
variable {t c:Addr} {A G B:List Int} {H:Hp} {Q:QV} {X:QX}
theorem c_gsize (S:GapS t c A G B H) (q:Q (.int ((A++B).length:Nat)) H):CallW g 1 390 [.ref t] Q X H:=by
 refine D.GapText_size.w rfl ?_
 apply at_ S.it
 refine .inl ⟨_,S.ic,?_⟩
 apply at_ S.it
 apply at_ S.it
 have e:((A++B).length:Int)=((vints (A++G++B)).length:Int) - ((A.length+G.length:Nat):Int)+(A.length:Int):=by rw [vints_len];simp;exact ln 0x41f2c9601a9621601996116216019611601130 rfl
 rw [e] at q;exact q
theorem c_gcode (S:GapS t c A G B H) {k:Nat} {x:Int} (hx:(A++B)[k]?=some x) (q:Q (.int x) H):CallW g 1 397 [.ref t,.int k] Q X H:=by
 refine D.GapText_code.w rfl ?_
 apply at_ S.it
 refine br (fun h=>?_) fun h=>?_
 ·apply at_ S.it
  refine .inl ⟨_,S.ic,ix (vints_get (c:=x) ?_) q⟩
  rw [List.append_assoc,List.getElem?_append_left (by exact ln 0x41f0b11010c611601120 rfl h)]
  rw [List.getElem?_append_left (by exact ln 0x41f0b11010c611601120 rfl h)] at hx
  exact hx
 ·apply at_ S.it
  apply at_ S.it
  apply at_ S.it
  conv=>whnf
  rw [show (k:Int) - (A.length:Int)+((A.length+G.length:Nat):Int)=((k+G.length:Nat):Int) by exact ln 0x41f2c6921019692111a611601130 rfl]
  refine .inl ⟨_,S.ic,ix (vints_get (c:=x) ?_) q⟩
  rw [List.getElem?_append_right (by simp;exact ln 0x41f1b01118c611601120 rfl h)]
  rw [List.getElem?_append_right (by exact ln 0x41f1b01118c611601120 rfl h)] at hx
  rw [← hx];congr 1;simp;exact ln 0x7e10617c1f2b01312b94121994111312b2191101150 rfl (Nat.sub_add_cancel (ln 0x41f1b92101921118c611601130 rfl h)) (Nat.sub_add_cancel (ln 0x41f1b01118c611601120 rfl h))
theorem c_gcodes (S:GapS t c A G B H) (hM:(A++G++B).length≤100000) {s e:Nat} (hs:s≤e) (he:e≤(A++B).length) (q:Q (.lst (vints (((A++B).drop s).take (e - s)))) H):CallW g 1 404 [.ref t,.int s,.int e] Q X H:=by
 refine D.GapText_codes.w rfl ?_
 apply at_ S.it
 apply at_ S.it
 apply at_ S.it
 have hM0:=hM
 simp only [List.length_append] at hM he
 refine br (fun h=>?_) fun h=>?_
 ·apply at_ S.it
  refine ⟨_,S.ic,?_⟩
  rw [vcut rfl rfl]
  refine ⟨seg_n hM0 (by decide),.inl ?_⟩
  have:((A++G++B).drop s).take (e - s)=((A++B).drop s).take (e - s):=by
   rw [List.append_assoc,List.drop_append_of_le_length (by exact ln 0x1041f1b11211b01211c611601130 rfl hs h),List.drop_append_of_le_length (by exact ln 0x1041f1b11211b01211c611601130 rfl hs h),List.take_append_of_le_length (by simp;exact ln 0x1f041f1b91101311c6216312b2191101140 rfl h (Nat.sub_add_cancel (ln 0x1041f1b11211b01211c611601130 rfl hs h))),List.take_append_of_le_length (by simp;exact ln 0x1f041f1b91101311c6216312b2191101140 rfl h (Nat.sub_add_cancel (ln 0x1041f1b11211b01211c611601130 rfl hs h)))]
  rw [this];exact q
 ·apply at_ S.it
  refine br (fun h2=>?_) fun h2=>?_
  ·apply at_ S.it
   refine ⟨_,S.ic,?_⟩
   rw [vcut (i:=s+G.length) (j:=e+G.length) (by exact ln 0x41f2c6921019a611692111601130 rfl) (by exact ln 0x41f2c6921019a611692111601130 rfl)]
   refine ⟨seg_n hM0 (by decide),.inl ?_⟩
   have:((A++G++B).drop (s+G.length)).take (e+G.length - (s+G.length))=((A++B).drop s).take (e - s):=by
    rw [drop_ge (X:=A++G) (m:=s - A.length) (by simp;exact ln 0x7c1841f2b90193111931212b2191101140 rfl (Nat.sub_add_cancel (ln 0x41f1b01114c611601120 rfl h2))),drop_ge (X:=A) (m:=s - A.length) (by exact ln 0x7c1841f2b90111212b2191101130 rfl (Nat.sub_add_cancel (ln 0x41f1b01114c611601120 rfl h2)))]
    congr 1;exact ln 0x7e10617c1f2b01312b94121994111312b2191101150 rfl (Nat.sub_add_cancel (ln 0x41f1b92111921011b1101130 rfl hs)) (Nat.sub_add_cancel hs)
   rw [this];exact q
  ·apply at_ S.it
   apply at_ S.it
   refine ⟨_,S.ic,?_⟩
   rw [vcut rfl rfl]
   refine ⟨by rw [vints_len];simp;exact ln 0x861041f1b010000003311b000186a03951941212b01312b2191101160 rfl hM (Nat.min_eq_left (ln 0x1f841f1b01512b21911512b9941312191101160 rfl (Nat.sub_add_cancel (ln 0x41f1b1101cc611601120 rfl h2)) (Nat.sub_add_cancel (ln 0x41f1b9931211101cc611601140 rfl h2)))) (Nat.sub_add_cancel (ln 0x41f1b1101cc611601120 rfl h2)),.inl ?_⟩
   apply at_ S.it
   apply at_ S.it
   refine ⟨_,S.ic,?_⟩
   rw [vcut (j:=e+G.length) rfl (by exact ln 0x41f2c6921019a611692111601130 rfl)]
   refine ⟨seg_n hM0 (by decide),.inl ?_⟩
   conv=>whnf
   rw [vints_app]
   refine ⟨by rw [vints_len,List.length_append];exact Nat.le_trans (Nat.add_le_add (seg_m hM0) (seg_m hM0)) (by decide),.inl ?_⟩
   have:((A++G++B).drop s).take (A.length - s)++((A++G++B).drop (A.length+G.length)).take (e+G.length - (A.length+G.length))=((A++B).drop s).take (e - s):=by
    rw [List.append_assoc,drop_take_left _ _ _ (by exact ln 0x41f1b1101cc611601120 rfl h2),← List.append_assoc,List.drop_left' (by exact List.length_append),List.drop_append_of_le_length (by exact ln 0x41f1b1101cc611601120 rfl h2),List.take_append,List.take_of_length_le (l:=A.drop s) (by simp;exact ln 0x1f041f1b91101319c6316212b2191101140 rfl h (Nat.sub_add_cancel hs))]
    congr 2;simp;exact ln 0x85f7e105f8617c1f2b51612b97141997121612b31901512b41911312b2191101180 rfl (Nat.sub_add_cancel (ln 0x41f1b92101921119c611601130 rfl h)) (Nat.sub_add_cancel (ln 0x7e1041f1b01319c6416212b41911312b2191101150 rfl h (Nat.sub_add_cancel (ln 0x41f1b1101cc611601120 rfl h2)) (Nat.sub_add_cancel hs))) (Nat.sub_add_cancel hs) (Nat.sub_add_cancel (ln 0x41f1b1101cc611601120 rfl h2))
   rw [this];exact q
theorem c_gmove (S:GapS t c A G B H) (hM:(A++G++B).length≤100000) {n:Nat} (hn:n≤(A++B).length)
  (q:∀ H' A' G' B',A'++B'=A++B→A'.length=n→G'.length=G.length→GapS t c A' G' B' H'→Fr [t,c] H H'→Q .none H'):CallW g 1 411 [.ref t,.int n] Q X H:=by
 refine D.GapText_move_gap.w rfl ?_
 have hM0:=hM
 simp only [List.length_append] at hM hn
 have hB:(B.take (n - A.length)).length≤100000:=Nat.le_trans (List.length_take_le' _ _) (Nat.le_trans (Nat.le_add_left _ _) hM)
 apply at_ S.it
 refine br (fun h=>?_) fun h=>?_
 ·apply at_ S.it
  apply at_ S.it
  refine ⟨_,S.ic,?_⟩
  rw [vcut rfl rfl,List.append_assoc,drop_take_left _ _ _ (by exact ln 0x41f1b11010c611601120 rfl h)]
  refine ⟨by rw [vints_len];simp;exact ln 0x41f1b931010000003011b000186a0392191101140 rfl hM,.inl ?_⟩
  apply at_ S.it
  apply at_ S.it
  apply at_ S.it
  refine ⟨_,S.ic,by rw [vints_len,vints_len];simp;exact ln 0x21081f0b001000003901994131211b000186a03941931212b2191101150 rfl hM (Nat.sub_add_cancel (ln 0x41f1b11010c611601120 rfl h)),?_⟩
  rw [spliceL_nat (i:=n+G.length) (j:=A.length+G.length) (by rw [vints_len];simp;exact ln 0x7c1841f2c9631611a60196316212b2191101140 rfl (Nat.sub_add_cancel (ln 0x41f1b11010c611601120 rfl h))) rfl (ln 0x41f1b92111921010c611601130 rfl h) (by rw [vints_len];simp)]
  have it1:put H c (.list ((vints (A++G++B)).take (n+G.length)++vints (A.drop n)++(vints (A++G++B)).drop (A.length+G.length))) t=some (.inst cGap (gapF c A.length (A.length+G.length))):=by rw [put_ne S.ne];exact S.it
  apply at_ it1
  apply sa_ it1
  apply sa_ put_at
  conv=>whnf
  rw [put_put]
  refine q _ (A.take n) (((A++G).take (n+G.length)).drop n) (A.drop n++B) ?_ (by simp;exact ln 0x8417c1f2b11012b1101120 rfl (Nat.min_eq_left (ln 0x41f1b11010c611601120 rfl h))) (by simp;exact ln 0x86105f7c1f2b31212b93101911212b1101140 rfl (Nat.sub_add_cancel (ln 0x7c1f1b92101112b1101130 rfl (Nat.min_eq_left (ln 0x41f1b11010c611601120 rfl h)))) (Nat.min_eq_left (ln 0x41f1b11010c611601120 rfl h))) ?_ (((Fr.refl _ _).put (by exact .tail _ (.head _))).put (by exact .head _))
  ·rw [← List.append_assoc,List.take_append_drop]
  ·refine .of' S.ne rfl ?_ (gapF_eq (by simp;exact ln 0x7c1841f2c6016112b1101120 rfl (Nat.min_eq_left (ln 0x41f1b11010c611601120 rfl h))) (by rw [vints_len];simp;exact ln 0x7de7c1862841f2c9601621a64196316512b51911412b11212b9312191101160 rfl (Nat.sub_add_cancel (ln 0x41f1b11010c611601120 rfl h)) (Nat.min_eq_left (ln 0x41f1b11010c611601120 rfl h)) (Nat.sub_add_cancel (ln 0x7c1f1b92101112b1101130 rfl (Nat.min_eq_left (ln 0x41f1b11010c611601120 rfl h))))))
   have e1:A.take n=((A++G).take (n+G.length)).take n:=by
    rw [List.take_take,Nat.min_eq_left (by exact ln 0x1f1b9110101120 rfl),List.take_append_of_le_length (by exact ln 0x41f1b11010c611601120 rfl h)]
   rw [e1,List.take_append_drop]
   unfold vints
   rw [← List.map_take,← List.map_drop,← List.map_append,← List.map_append,List.take_append_of_le_length (by simp;exact ln 0x41f1b11010c611601120 rfl h),List.drop_left' (by exact List.length_append),List.append_assoc]
 ·apply at_ S.it
  apply at_ S.it
  apply at_ S.it
  apply at_ S.it
  refine ⟨_,S.ic,?_⟩
  have ed:((A++G++B).drop (A.length+G.length)).take (n+G.length - (A.length+G.length))=B.take (n - A.length):=by
   rw [List.drop_left' (by exact List.length_append)];congr 1;exact ln 0x7e10617c1f2b01312b94121994111312b2191101150 rfl (Nat.sub_add_cancel (ln 0x41f1b92101921118c611601130 rfl h)) (Nat.sub_add_cancel (ln 0x41f1b01118c611601120 rfl h))
  rw [vcut (i:=A.length+G.length) (j:=n+G.length) rfl (by exact ln 0x41f2c691121a6019621691101130 rfl),ed]
  refine ⟨by rw [vints_len];exact Nat.le_trans hB (by decide),.inl ?_⟩
  apply at_ S.it
  apply at_ S.it
  apply at_ S.it
  refine ⟨_,S.ic,by rw [vints_len,vints_len];exact Nat.lt_of_le_of_lt (Nat.add_le_add hM0 hB) (by decide),?_⟩
  rw [spliceL_nat (i:=A.length) (j:=n) rfl (by rw [vints_len];simp;exact ln 0x86105f7c1f2c62196316112b01312b2191101140 rfl (Nat.min_eq_left (ln 0x21041f1b31011b93111212b2191101140 rfl hn (Nat.sub_add_cancel (ln 0x41f1b01118c611601120 rfl h)))) (Nat.sub_add_cancel (ln 0x41f1b01118c611601120 rfl h))) (ln 0x41f1b01118c611601120 rfl h) (by rw [vints_len];simp;exact ln 0x41f1b99213111011b9211101140 rfl hn)]
  have it1:put H c (.list ((vints (A++G++B)).take A.length++vints (B.take (n - A.length))++(vints (A++G++B)).drop n)) t=some (.inst cGap (gapF c A.length (A.length+G.length))):=by rw [put_ne S.ne];exact S.it
  apply at_ it1
  apply sa_ it1
  apply sa_ put_at
  conv=>whnf
  rw [put_put]
  refine q _ (A++B.take (n - A.length)) (((G++B).drop (n - A.length)).take G.length) (B.drop (n - A.length)) ?_ (by simp;exact ln 0x86105f7c1f2b21931112b01312b2191101140 rfl (Nat.min_eq_left (ln 0x21041f1b31011b93111212b2191101140 rfl hn (Nat.sub_add_cancel (ln 0x41f1b01118c611601120 rfl h)))) (Nat.sub_add_cancel (ln 0x41f1b01118c611601120 rfl h))) (by simp;exact ln 0x8417c1f2b11012b1101120 rfl (Nat.min_eq_left (ln 0x85f041f1b31411b95111212b95141901312b2191101160 rfl hn (Nat.sub_add_cancel (ln 0x21041f1b93141011b93111212b2191101150 rfl hn (Nat.sub_add_cancel (ln 0x41f1b01118c611601120 rfl h)))) (Nat.sub_add_cancel (ln 0x41f1b01118c611601120 rfl h))))) ?_ (((Fr.refl _ _).put (by exact .tail _ (.head _))).put (by exact .head _))
  ·rw [List.append_assoc,List.take_append_drop]
  ·refine .of' S.ne rfl ?_ (gapF_eq (by simp;exact ln 0x7df061841f2c96316116212b01312b2191101140 rfl (Nat.min_eq_left (ln 0x21041f1b31011b93111212b2191101140 rfl hn (Nat.sub_add_cancel (ln 0x41f1b01118c611601120 rfl h)))) (Nat.sub_add_cancel (ln 0x41f1b01118c611601120 rfl h))) (by rw [vints_len];simp;exact ln 0x7c1841f2c96019631621963196116212b1101140 rfl (Nat.min_eq_left (ln 0x85f041f1b31411b95111212b95141901312b2191101160 rfl hn (Nat.sub_add_cancel (ln 0x21041f1b93141011b93111212b2191101150 rfl hn (Nat.sub_add_cancel (ln 0x41f1b01118c611601120 rfl h)))) (Nat.sub_add_cancel (ln 0x41f1b01118c611601120 rfl h))))))
   have e2:B.drop (n - A.length)=((G++B).drop (n - A.length)).drop G.length:=by
    rw [List.drop_drop,Nat.add_comm,← List.drop_drop,List.drop_left' rfl]
   rw [e2,List.append_assoc (A++List.take (n - A.length) B),List.take_append_drop]
   unfold vints
   rw [← List.map_take,← List.map_drop,← List.map_append,← List.map_append,List.append_assoc A G B,List.take_left' rfl,drop_ge (X:=A) (m:=n - A.length) (by exact ln 0x7c1841f2b90111212b2191101130 rfl (Nat.sub_add_cancel (ln 0x41f1b01118c611601120 rfl h)))]
theorem c_gwiden (S:GapS t c A G B H) (hM:(A++G++B).length≤100000) {n:Nat} (hn:n≤100000)
  (q:∀ H' G',G.length≤G'.length→n≤G'.length→G'.length≤G.length+n+8→GapS t c A G' B H'→Fr [t,c] H H'→Q .none H'):CallW g 1 418 [.ref t,.int n] Q X H:=by
 refine D.GapText_widen_gap.w rfl ?_
 simp only [List.length_append] at hM
 apply at_ S.it
 apply at_ S.it
 refine br (fun h=>?_) fun h=>?_
 ·refine ⟨by exact Nat.succ_pos _,.inl ?_⟩
  apply at_ S.it
  obtain ⟨m,hm⟩:∃ m:Nat,(n:Int) - (((A.length+G.length:Nat):Int) - (A.length:Int))+8=m:=⟨((n:Int) - (((A.length+G.length:Nat):Int) - (A.length:Int))+8).toNat,ln 0x7c1841f2c601982aa6216931216112c982aa621693121611601140 rfl (Int.toNat_of_nonneg (ln 0x41f1c982aa611692111601023c02aa611692111601130 rfl h))⟩
  conv=>whnf
  rw [hm]
  refine ⟨ln 0x1f041f1c1446311b000186a03012c631982aa611692111601140 rfl hn hm,ln 0x1f1c60153f4110 rfl,?_⟩
  have er:List.replicate (Int.toNat (m:Int)) (V.int 0)=vints (List.replicate m 0):=by simp [vints]
  rw [er]
  refine ⟨by rw [vints_len];simp;exact ln 0x1f041f1b010000003311b000186a03012c631982aa611692111601140 rfl hn hm,.inl ?_⟩
  apply at_ S.it
  apply at_ S.it
  apply at_ S.it
  refine ⟨_,S.ic,by rw [vints_len,vints_len];simp;exact ln 0x7c1041f0b001000003931994121111b000186a03011b000186a03941921112c631982aa611692111601150 rfl hn hM hm,?_⟩
  rw [spliceL_nat (i:=A.length+G.length) (j:=A.length+G.length) rfl rfl (ln 0x1f1b9110191101120 rfl) (by rw [vints_len];simp)]
  have it1:put H c (.list ((vints (A++G++B)).take (A.length+G.length)++vints (List.replicate m 0)++(vints (A++G++B)).drop (A.length+G.length))) t=some (.inst cGap (gapF c A.length (A.length+G.length))):=by rw [put_ne S.ne];exact S.it
  apply at_ it1
  apply at_ it1
  apply sa_ it1
  refine q _ (G++List.replicate m 0) (by simp) (by simp;exact ln 0x841f1b93121012c631982aa611692111601140 rfl hm) (by simp;exact ln 0x7c1f1b98290121931212c631982aa611692111601140 rfl hm) ?_ (((Fr.refl _ _).put (by exact .tail _ (.head _))).put (by exact .head _))
  refine .of' S.ne rfl ?_ (gapF_eq (by simp) (by simp;exact ln 0x8417c1f2c996316216119829aa611962161160196216112c631982aa611692111601140 rfl hm))
  unfold vints
  rw [← List.map_take,← List.map_drop,← List.map_append,← List.map_append,List.take_left' (by exact List.length_append),List.drop_left' (by exact List.length_append)]
  simp
 ·exact q H G (ln 0x1f1b0101110 rfl) (ln 0x41f1b2101bc02aa611692111601130 rfl h) (ln 0x1f1b9829110101120 rfl) S (.refl _ _)
end
end Mine
namespace Mine
structure GapI (t c:Addr) (full:List Int) (M:Nat) (H:Hp):Prop where
 ex:∃ A G B,A++B=full∧(A++G++B).length≤M∧GapS t c A G B H
theorem GapI.fr {t c:Addr} {full:List Int} {M:Nat} {H H':Hp} (S:GapI t c full M H) (h:∀ x,x=t∨x=c→H' x=H x):GapI t c full M H':=by
 obtain ⟨A,G,B,e,h1,h2⟩:=S
 exact ⟨A,G,B,e,h1,h2.ne,by rw [h t (.inl rfl)];exact h2.it,by rw [h c (.inr rfl)];exact h2.ic⟩
theorem take_app_le {A B:List Int} {n:Nat} (h:n≤A.length):(A++B).take n=A.take n:=List.take_append_of_le_length h
section
variable {g:G} (D:Defs g)
include D
variable {t c:Addr} {full:List Int} {M:Nat} {H:Hp} {Q:QV} {X:QX}
theorem c_isize (S:GapI t c full M H) (q:Q (.int full.length) H):CallW g 1 390 [.ref t] Q X H:=by
 obtain ⟨A,G,B,rfl,h1,h2⟩:=S
 exact c_gsize D h2 q
theorem c_icode (S:GapI t c full M H) {k:Nat} {x:Int} (hx:full[k]?=some x) (q:Q (.int x) H):CallW g 1 397 [.ref t,.int k] Q X H:=by
 obtain ⟨A,G,B,rfl,h1,h2⟩:=S
 exact c_gcode D h2 hx q
theorem c_icodes (S:GapI t c full M H) (hM:M≤50000) {s e:Nat} (hs:s≤e) (he:e≤full.length) (q:Q (.lst (vints ((full.drop s).take (e - s)))) H):CallW g 1 404 [.ref t,.int s,.int e] Q X H:=by
 obtain ⟨A,G,B,rfl,h1,h2⟩:=S
 exact c_gcodes D h2 (ln 0x1041f1b000186a03011b0000c3503111b1101120 rfl hM h1) hs he q
theorem c_iinsert (S:GapI t c full M H) (hM:M≤50000) {n:Nat} {ys:List Int} (hn:n≤full.length) (hy:ys.length≤10000) (q:∀ H',GapI t c (full.take n++ys++full.drop n) (M+ys.length+8) H'→Fr [t,c] H H'→Q .none H') :
  CallW g 3 425 [.ref t,.int n,.lst (vints ys)] Q X H:=by
 obtain ⟨A,G,B,rfl,h1,h2⟩:=S
 simp only [List.length_append] at h1 hn
 refine D.GapText_insert.w rfl ?_
 apply me_ h2.it
 conv=>whnf
 rw [vints_len]
 refine (c_gwiden D h2 (by simp;exact ln 0x1041f1b000186a03992111011b0000c3503311b3192191101140 rfl hM h1) (n:=ys.length) (ln 0x41f1b000186a03011b00002710301110 rfl hy) fun H1 G1 g1 g2 g3 S1 F1=>?_).up (by exact Nat.le_refl _)
 apply me_ S1.it
 refine (c_gmove D S1 (by simp;exact ln 0x1041041f1b000186a03994101311b0000c3503511b000027103211b51941911311b9829211101160 rfl hM hy h1 g3) (n:=n) (by simp;exact hn) fun H2 A2 G2 B2 e2 a2 g4 S2 F2=>?_).up (by exact Nat.le_refl _)
 apply at_ S2.it
 have l2:A2.length+B2.length=A.length+B.length:=by have:=congrArg List.length e2;simpa using this
 refine ⟨_,S2.ic,by rw [vints_len,vints_len];simp;exact ln 0x21841042041f0b001000003971991141011b0000c3503811b000027103711b81931961211b98297161512b51412b9312191101190 rfl hM hy h1 g3 g4 l2,?_⟩
 rw [spliceL_nat (i:=n) (j:=n+ys.length) rfl (by rw [vints_len];rfl) (ln 0x1f1b9110101120 rfl) (by rw [vints_len];simp;exact ln 0x7df041f1b99510121941311b11412b31212b1101160 rfl g2 a2 g4)]
 have it1:put H2 c (.list ((vints (A2++G2++B2)).take n++vints ys++(vints (A2++G2++B2)).drop (n+ys.length))) t=some (.inst cGap (gapF c A2.length (A2.length+G2.length))):=by rw [put_ne S2.ne];exact S2.it
 apply sa_ it1
 refine q _ ?_ (((F1.trans F2).put (by exact .tail _ (.head _))).put (by exact .head _))
 have e3:(A++B).take n=A2:=by rw [← e2,List.take_left' a2]
 have e4:(A++B).drop n=B2:=by rw [← e2,List.drop_left' a2]
 rw [e3,e4]
 refine ⟨A2++ys,G2.drop ys.length,B2,by rfl,by simp;exact ln 0x861841041f1b98291191999410111311b91961981511b98291181712b71212b96151941312b21911011a0 rfl h1 g3 g4 l2 (Nat.sub_add_cancel (ln 0x1f041f1b01211b11212b1101130 rfl g2 g4)),.of' S2.ne rfl ?_ (gapF_eq (by rw [vints_len];simp;exact ln 0x7c1841f2c6016112b1101120 rfl a2) (by simp;exact ln 0x7c1841f2c9601961163196216312b2191101140 rfl (Nat.sub_add_cancel (ln 0x1f041f1b01211b11212b1101130 rfl g2 g4))))⟩
 unfold vints
 rw [← List.map_take,← List.map_drop,← List.map_append,← List.map_append,List.append_assoc A2 G2 B2,List.take_left' a2,drop_ge (X:=A2) (m:=ys.length) (by exact ln 0x7c1841f2b92101921112b1101130 rfl a2),List.drop_append_of_le_length (by exact ln 0x1f041f1b01211b11212b1101130 rfl g2 g4)]
 simp
theorem c_idelete (S:GapI t c full M H) (hM:M≤50000) {s e:Nat} (hs:s≤e) (he:e≤full.length) (q:∀ H',GapI t c (full.take s++full.drop e) M H'→Fr [t,c] H H'→Q (.lst (vints ((full.drop s).take (e - s)))) H') :
  CallW g 3 432 [.ref t,.int s,.int e] Q X H:=by
 have S0:=S
 obtain ⟨A,G,B,rfl,h1,h2⟩:=S
 have fin:∀ (H1:Hp) (A1 G1 B1:List Int),A1++B1=A++B→(A1++G1++B1).length≤M→GapS t c A1 G1 B1 H1→s≤A1.length→A1.length≤e→Fr [t,c] H H1 →
   wSs g 2 [.asgA (.var 0) 23 (.bin .sub (.bin .add (.attr (.var 0) 23) (.var 2)) (.attr (.var 0) 22)),.asgA (.var 0) 22 (.var 1),.ret (.var 3)]
    [some (.ref t),some (.int s),some (.int e),some (.lst (vints (((A++B).drop s).take (e - s))))] (fun u0 H=>Q .none H) Q X H1:=by
  intro H1 A1 G1 B1 e1 m1 S1 s1 s2 F1
  have l1:A1.length+B1.length=A.length+B.length:=by have:=congrArg List.length e1;simpa using this
  simp only [List.length_append] at he
  apply at_ S1.it
  apply at_ S1.it
  apply sa_ S1.it
  apply sa_ put_at
  conv=>whnf
  rw [put_put]
  refine q _ ?_ (F1.put (by exact .head _))
  have e3:(A++B).take s=A1.take s:=by rw [← e1,take_app_le s1]
  have e4:(A++B).drop e=B1.drop (e - A1.length):=by rw [← e1,drop_ge (X:=A1) (m:=e - A1.length) (by exact ln 0x7c1841f2b90111212b2191101130 rfl (Nat.sub_add_cancel s2))]
  rw [e3,e4]
  refine ⟨A1.take s,A1.drop s++G1++B1.take (e - A1.length),B1.drop (e - A1.length),rfl,by simp at m1 ⊢;exact ln 0x861041f1b61999514101311b61995141212b11312b2191101170 rfl m1 (Nat.min_eq_left s1) (Nat.sub_add_cancel s1),S1.ne,?_,?_⟩
  ·rw [put_at]
   congr 2
   exact gapF_eq (by simp;exact ln 0x7c1841f2c6016112b1101120 rfl (Nat.min_eq_left s1)) (by simp;exact ln 0x7df7df061861841f2c999631671641661a611962196716112b51612b11951412b01312b2191101180 rfl (Nat.min_eq_left s1) (Nat.sub_add_cancel s1) (Nat.min_eq_left (ln 0x8417c1f1b51012b94131951111b94131212b2191101160 rfl l1 he (Nat.sub_add_cancel s2))) (Nat.sub_add_cancel s2))
  ·rw [put_ne (Ne.symm S1.ne),S1.ic]
   congr 3
   rw [show A1.take s++(A1.drop s++G1++B1.take (e - A1.length))++B1.drop (e - A1.length)=(A1.take s++A1.drop s)++G1++(B1.take (e - A1.length)++B1.drop (e - A1.length)) by simp only [List.append_assoc],List.take_append_drop,List.take_append_drop]
 refine D.GapText_delete.w rfl ?_
 apply me_ h2.it
 refine (c_icodes D S0 hM hs he ?_).up (by exact Nat.le_refl _)
 apply at_ h2.it
 simp only [List.length_append] at h1 he
 refine br (fun h=>?_) fun h=>?_
 ·apply me_ h2.it
  refine (c_gmove D h2 (by simp;exact ln 0x1041f1b000186a03992111011b0000c3503311b3192191101140 rfl hM h1) (n:=e) (by simp;exact he) fun H2 A2 G2 B2 e2 a2 g4 S2 F2=>?_).up (by exact Nat.le_refl _)
  have l2:A2.length+B2.length=A.length+B.length:=by have:=congrArg List.length e2;simpa using this
  apply at_ S2.it
  refine br (fun h=>False.elim (ln 0x17c1f1b21012b21113c611601030 rfl hs a2 h)) fun h3=>?_
  exact fin H2 A2 G2 B2 e2 (by simp;exact ln 0x861041f1b61991141011b61931951212b51412b9312191101170 rfl h1 g4 l2) S2 (ln 0x41f1b1101bc611601120 rfl h3) (ln 0x841f1b11012b1101120 rfl a2) F2
 ·apply at_ h2.it
  refine br (fun h3=>?_) fun h3=>?_
  ·apply me_ h2.it
   refine (c_gmove D h2 (by simp;exact ln 0x1041f1b000186a03992111011b0000c3503311b3192191101140 rfl hM h1) (n:=s) (by simp;exact Nat.le_trans (by assumption) (by assumption)) fun H2 A2 G2 B2 e2 a2 g4 S2 F2=>?_).up (by exact Nat.le_refl _)
   have l2:A2.length+B2.length=A.length+B.length:=by have:=congrArg List.length e2;simpa using this
   exact fin H2 A2 G2 B2 e2 (by simp;exact ln 0x861041f1b61991141011b61931951212b51412b9312191101170 rfl h1 g4 l2) S2 (ln 0x7c1f1b01112b1101120 rfl a2) (ln 0x21041f1b21011b21112b1101130 rfl hs a2) F2
  ·exact fin H A G B rfl (by simp;exact ln 0x41f1b31992111011b3192191101140 rfl h1) h2 (ln 0x41f1b1101bc611601120 rfl h3) (ln 0x41f1b01118c611601120 rfl h) (.refl _ _)
end
end Mine
namespace Mine
noncomputable abbrev Mks:=List (Addr × Bool)
noncomputable def mkF (i:Nat) (adv:Bool) (b:V) (p:Int):List (Nat × V):=[(19,.int i),(24,.bool adv),(25,b),(26,.int p)]
noncomputable def MkAt (b:V):Nat→Mks→List Int→Hp→Prop
 | _,[],ps,_=>ps=[]
 | i,k::ks,ps,H=>∃ p r,ps=p::r∧H k.1=some (.inst cMarker (mkF i k.2 b p))∧MkAt b (i+1) ks r H
theorem MkAt.fr {b:V} {H H':Hp}:∀ {i:Nat} {ks:Mks} {ps:List Int},MkAt b i ks ps H→(∀ x∈ks.map (·.1),H' x=H x)→MkAt b i ks ps H'
 | _,[],_,h,_=>h
 | i,k::ks,ps,⟨p,r,e,h1,h2⟩,h=>⟨p,r,e,by rw [h k.1 (by exact .head _)];exact h1,h2.fr fun x hx=>h x (by simp at hx ⊢;exact .inr hx)⟩
theorem MkAt.len {b:V} {H:Hp}:∀ {i:Nat} {ks:Mks} {ps:List Int},MkAt b i ks ps H→ps.length=ks.length
 | _,[],_,h=>by simp [MkAt] at h;exact congrArg _ h
 | i,k::ks,ps,⟨p,r,e,h1,h2⟩=>by subst e;simp [h2.len]
noncomputable def rowsE:Nat→Mks→List (Int × V)
 | _,[]=>[]
 | i,k::ks=>((i:Int),.ref k.1)::rowsE (i+1) ks
theorem rowsE_len:∀ (i:Nat) (ks:Mks),(rowsE i ks).length=ks.length
 | _,[]=>rfl
 | i,k::ks=>by simp [rowsE,rowsE_len (i+1) ks]
theorem rowsE_keys:∀ (i:Nat) (ks:Mks),(rowsE i ks).map (·.1)=(List.range' i ks.length).map fun k:Nat=>(k:Int)
 | _,[]=>rfl
 | i,k::ks=>by simp [rowsE,rowsE_keys (i+1) ks,List.range'_succ]
theorem dlook_rows:∀ (ks:Mks) (i j:Nat) (k:Addr × Bool),ks[j]?=some k→dlook ((i+j:Nat):Int) (rowsE i ks)=some (.ref k.1)
 | [],_,_,_,h=>by trivial
 | k0::ks,i,0,k,h=>by
  simp at h;subst h
  simp [dlook,rowsE,List.find?]
 | k0::ks,i,j+1,k,h=>by
  simp only [List.getElem?_cons_succ] at h
  have:=dlook_rows ks (i+1) j k h
  unfold dlook at *
  rw [rowsE,List.find?_cons_of_neg (by simp;exact fun e=>absurd e (Int.ne_of_lt (by exact ln 0x7c0f0c99126116016012c9912611601601120 rfl e)))]
  rw [show ((i+(j+1):Nat):Int)=((i+1+j:Nat):Int) by exact ln 0x41f2c691191201699121101120 rfl]
  exact this
structure MarkI (b:V) (m r:Addr) (ks:Mks) (ps:List Int) (H:Hp):Prop where
 im:H m=some (.inst cMarkers [(27,.ref r)])
 ir:H r=some (.dict (rowsE 1 ks))
 at1:MkAt b 1 ks ps H
theorem MarkI.fr {b:V} {m r:Addr} {ks:Mks} {ps:List Int} {H H':Hp} (S:MarkI b m r ks ps H) (h:∀ x∈m::r::ks.map (·.1),H' x=H x):MarkI b m r ks ps H':=
 ⟨by rw [h m (by exact .head _)];exact S.im,by rw [h r (by exact .tail _ (.head _))];exact S.ir,S.at1.fr fun x hx=>h x (.tail _ (.tail _ hx))⟩
noncomputable def mapM (f:Bool→Int→Int):Mks→List Int→List Int
 | k::ks,p::ps=>f k.2 p::mapM f ks ps
 | _,_=>[]
theorem mk_loop {b:V} {m r:Addr} {es:List (Int × V)} (Bd:V→Loc→QN→Hp→Prop) (f:Bool→Int→Int) (P:Loc→Prop)
  (turn:∀ (i:Nat) (a:Addr) (adv:Bool) (p:Int) (l:Loc) (H:Hp) (N:QN),P l→H m=some (.inst cMarkers [(27,.ref r)])→H r=some (.dict es)→dlook i es=some (.ref a)→H a=some (.inst cMarker (mkF i adv b p)) →
   (∀ l' H',P l'→H' a=some (.inst cMarker (mkF i adv b (f adv p)))→Fr [a] H H'→N l' H')→Bd (.int i) l N H) :
  ∀ (ks:Mks) (ps:List Int) (i:Nat) (l:Loc) (H:Hp) (N:QN),(∀ j k,ks[j]?=some k→dlook ((i+j:Nat):Int) es=some (.ref k.1))→(ks.map (·.1)).Nodup→m∉ks.map (·.1)→r∉ks.map (·.1) →
   H m=some (.inst cMarkers [(27,.ref r)])→H r=some (.dict es)→MkAt b i ks ps H→P l→(∀ l' H',MkAt b i ks (mapM f ks ps) H'→Fr (ks.map (·.1)) H H'→N l' H')→loopW Bd (vr i ks.length) l N H:=by
 intro ks
 induction ks with
 | nil=>exact fun ps i l H N u0 u0 u0 u0 u0 u0 h u0 q=>q l H (by simp [MkAt,mapM]) (.refl _ _)
 | cons k ks ih=>
  intro ps i l H N hl nd hm hr im ir h hp q
  refine el_EEAA h fun p ps rf2 h1 h2=>?_;subst rf2
  simp only [List.map_cons,List.nodup_cons,List.mem_cons,not_or] at nd hm hr
  rw [List.length_cons,vr_succ]
  refine turn i k.1 k.2 p l H _ hp im ir (by have:=hl 0 k rfl;exact this) h1 fun l1 H1 hp1 e1 F1=>?_
  refine ih ps (i+1) l1 H1 N (fun j k' hj=>?_) nd.2 hm.2 hr.2 (by rw [F1 m (by simp;exact hm.1)];exact im) (by rw [F1 r (by simp;exact hr.1)];exact ir) (h2.fr fun x hx=>F1 x ?_) hp1 fun l2 H2 mk2 F2=>?_
  ·have:=hl (j+1) k' (by simpa using hj)
   rw [show ((i+1+j:Nat):Int)=((i+(j+1):Nat):Int) by exact ln 0x41f2c699121101691191201120 rfl];exact this
  ·simp only [List.mem_singleton];intro e;exact nd.1 (e▸hx)
  ·refine q l2 H2 (in_EEAA _ _ rfl (by rw [F2 k.1 nd.1];exact e1) mk2) fun x hx=>?_
   simp only [List.map_cons,List.mem_cons,not_or] at hx
   rw [F2 x hx.2,F1 x (by simpa using hx.1)]
noncomputable def insF (s e:Int) (isb:Bool) (adv:Bool) (p:Int):Int:=if p > s∨(p=s∧(isb=true∨adv=true)) then p+e - s else p
noncomputable def delF (s e:Int) (_:Bool) (p:Int):Int:=if p > e then p - (e - s) else if p > s then s else p
noncomputable def repF (s e many:Int) (_:Bool) (p:Int):Int:=if p ≥ e then p+many - (e - s) else if p > s then s else p
theorem range'_sorted:∀ n i:Nat,((List.range' i n).map fun k:Nat=>(k:Int)).Pairwise (·≤·)
 | 0,_=>by simp
 | n+1,i=>by
  rw [List.range'_succ,List.map_cons,List.pairwise_cons]
  refine ⟨fun x hx=>?_,range'_sorted n (i+1)⟩
  refine el_EA (List.mem_map.mp hx) fun y hy rf2=>?_;subst rf2
  rw [List.mem_range'] at hy
  refine el_EA hy fun j u0 rf2=>?_;subst rf2
  exact ln 0x1f1c690171191201601120 rfl
section
variable {g:G} (D:Defs g)
include D
variable {b:V} {m r:Addr} {ks:Mks} {ps:List Int} {H:Hp} {Q:QV} {X:QX}
theorem c_numbers (S:MarkI b m r ks ps H) (hk:ks.length < 60) (q:Q (.lst (vr 1 ks.length)) H):CallW g 1 556 [.ref m] Q X H:=by
 refine D.Markers_numbers.w rfl ?_
 apply at_ S.im
 refine (in_EAAE _ S.ir (by rw [rowsE_len];exact ln 0x41f0b000000403010b0000003c301110 rfl hk) _ ⟨.refl _,by rw [rowsE_keys];exact range'_sorted _ _,?_⟩)
 rw [rowsE_keys]
 have:vints ((List.range' 1 ks.length).map fun k:Nat=>(k:Int))=vr 1 ks.length:=by simp [vints,vr]
 rw [this]
 exact ⟨by simp [vr];exact ln 0x41f1b010000003010b0000003c301110 rfl hk,.inl q⟩
theorem c_minserted (S:MarkI b m r ks ps H) (nd:(m::r::ks.map (·.1)).Nodup) (hk:ks.length < 60) {s e:Int} {isb:Bool} (q:∀ H',MarkI b m r ks (mapM (insF s e isb) ks ps) H'→Fr (ks.map (·.1)) H H'→Q .none H') :
  CallW g 4 584 [.ref m,.int s,.int e,.bool isb] Q X H:=by
 simp only [List.nodup_cons,List.mem_cons,not_or] at nd
 refine D.Markers_inserted.w rfl ?_
 apply me_ S.im
 refine (c_numbers D S hk ?_).up (by decide)
 refine mk_loop (b:=b) (m:=m) (r:=r) (es:=rowsE 1 ks) (LB g 2 [4] true (bodyOf m_Markers_inserted 0) Q) (insF s e isb) (fun l=>∃ o4 o5,l=[some (.ref m),some (.int s),some (.int e),some (.bool isb),o4,o5]) ?_ ks ps 1 _ H _ (fun j k hj=>dlook_rows ks 1 j k hj) nd.2.2 nd.1.2 nd.2.1 S.im S.ir S.at1 (in_EE _ _ rfl) ?_
 ·rintro i a adv p l H N ⟨o4,o5,rfl⟩ im ir hd ha hN
  apply at_ im
  refine .inr ⟨_,ir,_,hd,?_⟩
  apply at_ ha
  have yes:insF s e isb adv p=p+e - s→wSs g 2 [.asgA (.var 5) 26 (.bin .sub (.bin .add (.attr (.var 5) 26) (.var 2)) (.var 1))] [some (.ref m),some (.int s),some (.int e),some (.bool isb),some (.int i),some (.ref a)] N Q (fun u0 u0=>False) H:=fun hf=>by
   apply at_ ha
   apply sa_ ha
   refine hN _ _ (in_EE _ _ rfl) ?_ ((Fr.refl _ _).put (by simp))
   rw [put_at,hf];rfl
  have no:insF s e isb adv p=p→N [some (.ref m),some (.int s),some (.int e),some (.bool isb),some (.int i),some (.ref a)] H:=fun hf=>hN _ _ (in_EE _ _ rfl) (by rw [hf];exact ha) (.refl _ _)
  refine br (fun h=>brT (yes (by unfold insF;rw [if_pos (.inl h)]))) fun h=>?_
  apply at_ ha
  refine br (fun h2=>?_) fun h2=>brF (no (by unfold insF;rw [if_neg fun u=>u.elim h fun v=>h2 v.1]))
  refine brb (fun h3=>brT (yes (by unfold insF;rw [if_pos (.inr ⟨h2,.inl h3⟩)]))) fun h3=>?_
  apply at_ ha
  exact brb (fun h4=>yes (by unfold insF;rw [if_pos (.inr ⟨h2,.inr h4⟩)])) fun h4=>no (by unfold insF;rw [if_neg (by simp [h3,h4];exact ln 0x841f1c10002c1000102 rfl h2)])
 ·exact fun l' H' mk F=>q H' ⟨by rw [F m nd.1.2];exact S.im,by rw [F r nd.2.1];exact S.ir,mk⟩ F
theorem c_mdeleted (S:MarkI b m r ks ps H) (nd:(m::r::ks.map (·.1)).Nodup) (hk:ks.length < 60) {s e:Int} (q:∀ H',MarkI b m r ks (mapM (delF s e) ks ps) H'→Fr (ks.map (·.1)) H H'→Q .none H') :
  CallW g 4 591 [.ref m,.int s,.int e] Q X H:=by
 simp only [List.nodup_cons,List.mem_cons,not_or] at nd
 refine D.Markers_deleted.w rfl ?_
 apply me_ S.im
 refine (c_numbers D S hk ?_).up (by decide)
 refine mk_loop (b:=b) (m:=m) (r:=r) (es:=rowsE 1 ks) (LB g 2 [3] true (bodyOf m_Markers_deleted 0) Q) (delF s e) (fun l=>∃ o4 o5,l=[some (.ref m),some (.int s),some (.int e),o4,o5]) ?_ ks ps 1 _ H _ (fun j k hj=>dlook_rows ks 1 j k hj) nd.2.2 nd.1.2 nd.2.1 S.im S.ir S.at1 (in_EE _ _ rfl) ?_
 ·rintro i a adv p l H N ⟨o4,o5,rfl⟩ im ir hd ha hN
  apply at_ im
  refine .inr ⟨_,ir,_,hd,?_⟩
  apply at_ ha
  refine br (fun h=>?_) fun h=>?_
  ·apply at_ ha
   apply sa_ ha
   refine hN _ _ (in_EE _ _ rfl) ?_ ((Fr.refl _ _).put (by simp))
   rw [put_at];unfold delF;rw [if_pos h];rfl
  ·apply at_ ha
   refine br (fun h2=>?_) fun h2=>?_
   ·apply sa_ ha
    refine hN _ _ (in_EE _ _ rfl) ?_ ((Fr.refl _ _).put (by simp))
    rw [put_at];unfold delF;rw [if_neg h,if_pos h2];rfl
   ·exact hN _ _ (in_EE _ _ rfl) (by unfold delF;rw [if_neg h,if_neg h2];exact ha) (.refl _ _)
 ·exact fun l' H' mk F=>q H' ⟨by rw [F m nd.1.2];exact S.im,by rw [F r nd.2.1];exact S.ir,mk⟩ F
theorem c_mreplaced (S:MarkI b m r ks ps H) (nd:(m::r::ks.map (·.1)).Nodup) (hk:ks.length < 60) {s e n:Int} (q:∀ H',MarkI b m r ks (mapM (repF s e n) ks ps) H'→Fr (ks.map (·.1)) H H'→Q .none H') :
  CallW g 4 598 [.ref m,.int s,.int e,.int n] Q X H:=by
 simp only [List.nodup_cons,List.mem_cons,not_or] at nd
 refine D.Markers_replaced.w rfl ?_
 apply me_ S.im
 refine (c_numbers D S hk ?_).up (by exact Nat.succ_pos _)
 refine mk_loop (b:=b) (m:=m) (r:=r) (es:=rowsE 1 ks) (LB g 2 [4] true (bodyOf m_Markers_replaced 0) Q) (repF s e n) (fun l=>∃ o4 o5,l=[some (.ref m),some (.int s),some (.int e),some (.int n),o4,o5]) ?_ ks ps 1 _ H _ (fun j k hj=>dlook_rows ks 1 j k hj) nd.2.2 nd.1.2 nd.2.1 S.im S.ir S.at1 (in_EE _ _ rfl) ?_
 ·rintro i a adv p l H N ⟨o4,o5,rfl⟩ im ir hd ha hN
  apply at_ im
  refine .inr ⟨_,ir,_,hd,?_⟩
  apply at_ ha
  refine br (fun h=>?_) fun h=>?_
  ·apply at_ ha
   apply sa_ ha
   refine hN _ _ (in_EE _ _ rfl) ?_ ((Fr.refl _ _).put (by exact .head _))
   rw [put_at];unfold repF;rw [if_pos h];rfl
  ·apply at_ ha
   refine br (fun h2=>?_) fun h2=>?_
   ·apply sa_ ha
    refine hN _ _ (in_EE _ _ rfl) ?_ ((Fr.refl _ _).put (by exact .head _))
    rw [put_at];unfold repF;rw [if_neg h,if_pos h2];rfl
   ·exact hN _ _ (in_EE _ _ rfl) (by unfold repF;rw [if_neg h,if_neg h2];exact ha) (.refl _ _)
 ·exact fun l' H' mk F=>q H' ⟨by rw [F m nd.1.2];exact S.im,by rw [F r nd.2.1];exact S.ir,mk⟩ F
end
end Mine
namespace Mine
structure Lay where
 b:Addr
 t:Addr
 c:Addr
 m:Addr
 r:Addr
 ks:Mks
noncomputable def Lay.all (L:Lay):List Addr:=L.b::L.t::L.c::L.m::L.r::L.ks.map (·.1)
noncomputable def bufF (L:Lay) (bg zv pt tk ck:Int):List (Nat × V):=[(19,.int 1),(1,.str (Str.ofString "a")),(6,.ref L.t),(10,.ref L.m),(7,.int pt),(2,.int bg),(3,.int zv),(11,.none),(12,.bool true),(0,.bool false),(13,.int tk),(14,.int ck),(15,.int 1),(4,.lst []),(5,.none),(8,.none),(9,.none),(16,.none),(17,.none),(18,.none)]
structure BufR (L:Lay) (full:List Int) (bg zv pt:Int) (ps:List Int) (M:Nat) (H:Hp):Prop where
 nd:L.all.Nodup
 hk:L.ks.length < 60
 hM:M≤40000
 ib:∃ tk ck,H L.b=some (.inst cBuffer (bufF L bg zv pt tk ck))
 ig:GapI L.t L.c full M H
 im:MarkI (.ref L.b) L.m L.r L.ks ps H
theorem GapI.le {t c:Addr} {full:List Int} {M:Nat} {H:Hp} (S:GapI t c full M H):full.length≤M:=by
 obtain ⟨A,G,B,rfl,h1,h2⟩:=S
 simp at h1 ⊢;exact ln 0x41f1b31921011b3199211101140 rfl h1
section
variable {L:Lay} {full:List Int} {bg zv pt:Int} {ps:List Int} {M:Nat} {H:Hp}
theorem BufR.le (S:BufR L full bg zv pt ps M H):full.length≤40000:=Nat.le_trans S.ig.le S.hM
theorem BufR.bne (S:BufR L full bg zv pt ps M H):∀ x∈L.t::L.c::L.m::L.r::L.ks.map (·.1),x≠L.b:=fun x hx e=>by
 have:=S.nd;unfold Lay.all at this;rw [List.nodup_cons] at this;exact this.1 (e▸hx)
theorem BufR.ndm (S:BufR L full bg zv pt ps M H):(L.m::L.r::L.ks.map (·.1)).Nodup:=by
 have:=S.nd;unfold Lay.all at this;rw [List.nodup_cons,List.nodup_cons,List.nodup_cons] at this;exact this.2.2.2
theorem BufR.putB (S:BufR L full bg zv pt ps M H) {bg' zv' pt' tk ck:Int} {fs:List (Nat × V)} (e:fs=bufF L bg' zv' pt' tk ck):BufR L full bg' zv' pt' ps M (put H L.b (.inst cBuffer fs)):=
 ⟨S.nd,S.hk,S.hM,(in_EE tk ck (by rw [put_at,e])),S.ig.fr fun x hx=>put_ne (S.bne x (by rcases hx with rfl | rfl<;>simp)),S.im.fr fun x hx=>put_ne (S.bne x (.tail _ (.tail _ hx)))⟩
theorem BufR.gap (S:BufR L full bg zv pt ps M H) {full':List Int} {M':Nat} {H':Hp} (hM:M'≤40000) (F:Fr [L.t,L.c] H H') (g:GapI L.t L.c full' M' H'):BufR L full' bg zv pt ps M' H':=by
 have nd:=S.nd
 unfold Lay.all at nd
 simp only [List.nodup_cons,List.mem_cons,not_or] at nd
 refine el_AAA nd fun rt0 rt1 rt2 u0=>?_;obtain ⟨n1,n2,n3,n4,n5⟩:=rt0;obtain ⟨n6,n7,n8,n9⟩:=rt1;obtain ⟨n10,n11,n12⟩:=rt2
 refine el_EE S.ib fun tk ck h=>?_
 refine ⟨S.nd,S.hk,hM,(in_EE tk ck (by rw [F L.b (by exact ninS (by assumption) (ninS (by assumption) nin0))];exact h)),g,S.im.fr fun x hx=>F x ?_⟩
 intro q
 simp only [List.mem_cons,List.not_mem_nil,or_false] at q hx
 rcases hx with rfl | rfl | hx<;>rcases q with q | q
 ·exact n7 q.symm
 ·exact n10 q.symm
 ·exact n8 q.symm
 ·exact n11 q.symm
 ·exact n9 (q▸hx)
 ·exact n12 (q▸hx)
theorem BufR.marks (S:BufR L full bg zv pt ps M H) {ps':List Int} {H':Hp} (F:Fr (L.ks.map (·.1)) H H') (g:MarkI (.ref L.b) L.m L.r L.ks ps' H'):BufR L full bg zv pt ps' M H':=by
 have nd:=S.nd
 unfold Lay.all at nd
 simp only [List.nodup_cons,List.mem_cons,not_or] at nd
 refine el_AAA nd fun rt0 rt1 rt2 u0=>?_;obtain ⟨n1,n2,n3,n4,n5⟩:=rt0;obtain ⟨n6,n7,n8,n9⟩:=rt1;obtain ⟨n10,n11,n12⟩:=rt2
 refine el_EE S.ib fun tk ck h=>?_
 exact ⟨S.nd,S.hk,S.hM,(in_EE tk ck (by rw [F L.b n5];exact h)),S.ig.fr fun x hx=>F x (by rcases hx with rfl | rfl<;>assumption),g⟩
theorem Fr.gap {H':Hp} (F:Fr [L.t,L.c] H H'):Fr L.all H H':=F.more fun a ha=>by
 simp only [List.mem_cons,List.not_mem_nil,or_false] at ha;unfold Lay.all;rcases ha with rfl | rfl<;>simp
theorem Fr.marks {H':Hp} (F:Fr (L.ks.map (·.1)) H H'):Fr L.all H H':=F.more fun a ha=>by unfold Lay.all;simp only [List.mem_cons];exact .inr (.inr (.inr (.inr (.inr ha))))
theorem Lay.b_mem (L:Lay):L.b∈L.all:=by unfold Lay.all;exact .head _
end
section
variable {g:G} (D:Defs g)
include D
variable {L:Lay} {full:List Int} {bg zv pt:Int} {ps:List Int} {M:Nat} {H:Hp} {Q:QV} {X:QX}
theorem c_need_writable (S:BufR L full bg zv pt ps M H) (q:Q .none H):CallW g 1 48 [.ref L.b] Q X H:=by
 refine el_EE S.ib fun tk ck h=>?_
 refine D.need_writable.w rfl ?_
 apply at_ h
 exact brF q
theorem c_size (S:BufR L full bg zv pt ps M H) (q:Q (.int full.length) H):CallW g 3 655 [.ref L.b] Q X H:=by
 refine el_EE S.ib fun tk ck h=>?_
 refine D.Buffer_size.w rfl ?_
 apply at_ h
 conv=>whnf
 obtain ⟨A,G,B,e,h1,h2⟩:=S.ig
 exact ⟨_,_,h2.it,_,rfl,(c_isize D S.ig q).up (by exact Nat.le_refl _)⟩
theorem c_need_room (S:BufR L full bg zv pt ps M H) {n:Int} (hn:n≤100000) (q:Q .none H):CallW g 5 55 [.ref L.b,.int n] Q X H:=by
 refine el_EE S.ib fun tk ck h=>?_
 refine D.need_room.w rfl ?_
 apply me_ h
 refine c_size D S ?_
 have:=S.le
 exact br (fun h=>False.elim (ln 0x1041f1c000186a03001b00009c403013c004000003900601011 rfl hn this h)) fun u0=>q
theorem c_reached (S:BufR L full bg zv pt ps M H) {s e:Int} (hx:(if e < s then e else s) < bg∨(if e > s then e else s) > zv→X (Str.ofString "args-out-of-range") H)
  (q:¬((if e < s then e else s) < bg∨(if e > s then e else s) > zv)→Q (.tup [.int (if e < s then e else s),.int (if e > s then e else s)]) H):CallW g 1 62 [.ref L.b,.int s,.int e] Q X H:=by
 refine el_EE S.ib fun tk ck h=>?_
 refine D.reached.w rfl ?_
 apply at_ h
 refine br (fun h1=>brT ⟨by exact Nat.le_of_ble_eq_true rfl,hx (.inl h1)⟩) fun h1=>?_
 apply at_ h
 exact br (fun h2=>⟨by exact Nat.le_of_ble_eq_true rfl,hx (.inr h2)⟩) fun h2=>⟨by exact Nat.le_of_ble_eq_true rfl,q (fun h=>h.elim h1 h2)⟩
theorem c_tell_ahead (S:BufR L full bg zv pt ps M H) {s e:V} (q:Q .none H):CallW g 2 69 [.ref L.b,s,e] Q X H:=by
 refine el_EE S.ib fun tk ck h=>?_
 refine D.tell_ahead.w rfl ?_
 apply at_ h
 exact ⟨by decide,.inl q⟩
theorem c_touch (S:BufR L full bg zv pt ps M H) (q:∀ H',BufR L full bg zv pt ps M H'→Fr [L.b] H H'→Q .none H'):CallW g 1 704 [.ref L.b,.bool true] Q X H:=by
 refine el_EE S.ib fun tk ck h=>?_
 refine D.Buffer_touch.w rfl ?_
 apply at_ h
 apply sa_ h
 refine brT ?_
 apply at_ put_at
 apply sa_ put_at
 conv=>whnf
 rw [put_put]
 exact q _ (S.putB (tk:=tk+1) (ck:=tk+1) rfl) ((Fr.refl _ _).put (by exact .head _))
theorem c_tell_behind (S:BufR L full bg zv pt ps M H) {s e o:V} (q:∀ H',BufR L full bg zv pt ps M H'→Fr [L.b] H H'→Q .none H'):CallW g 3 76 [.ref L.b,s,e,o] Q X H:=by
 refine el_EE S.ib fun tk ck h=>?_
 refine D.tell_behind.w rfl ?_
 apply me_ h
 refine c_touch D S fun H' S' F=>?_
 refine el_EE S'.ib fun tk ck h=>?_
 apply at_ h
 exact ⟨by exact Nat.zero_le _,.inl (q H' S' F)⟩
theorem c_hung_out (S:BufR L full bg zv pt ps M H) {s e:V} (q:Q .none H):CallW g 1 97 [.ref L.b,s,e] Q X H:=by
 refine el_EE S.ib fun tk ck h=>?_
 refine D.hung_out.w rfl ?_
 apply at_ h
 refine brF ?_
 apply at_ h
 exact brF q
theorem c_hung_in (S:BufR L full bg zv pt ps M H) {s e o:V} (q:Q .none H):CallW g 1 104 [.ref L.b,s,e,o] Q X H:=by
 refine el_EE S.ib fun tk ck h=>?_
 refine D.hung_in.w rfl ?_
 apply at_ h
 refine brF ?_
 apply at_ h
 exact brF q
noncomputable def outPt (s e pt:Int):Int:=if pt > s then (if pt - (e - s) > s then pt - (e - s) else s) else pt
theorem c_text_out (S:BufR L full bg zv pt ps M H) {s e:Nat} (hs:s≤e) (he:e≤full.length) {si ei:Int} (hsi:si=s+1) (hei:ei=e+1)
  (q:∀ H',BufR L (full.take s++full.drop e) bg (zv - (ei - si)) (outPt si ei pt) ps M H'→Fr L.all H H'→Q (.lst (vints ((full.drop s).take (e - s)))) H'):CallW g 5 83 [.ref L.b,.int si,.int ei] Q X H:=by
 refine el_EE S.ib fun tk ck h=>?_
 obtain ⟨A,G,B,e0,h1,h2⟩:=S.ig
 refine D.text_out.w rfl ?_
 apply at_ h
 refine brF ?_
 apply at_ h
 apply me_ h2.it
 conv=>whnf
 rw [show si - 1=(s:Int) by exact ln 0x8417c1f2c601a12002c91260100111 rfl hsi,show ei - 1=(e:Int) by exact ln 0x8417c1f2c601a12002c91260100111 rfl hei]
 have hM:=S.hM
 refine (c_idelete D S.ig (ln 0x41f1b0000c3503011b00009c40301110 rfl hM) hs he fun H1 g1 F1=>?_).up (by decide)
 have S1:=S.gap S.hM F1 g1
 refine el_EE S1.ib fun tk ck h=>?_
 apply at_ h
 apply sa_ h
 have S2:BufR L (full.take s++full.drop e) bg (zv - (ei - si)) pt ps M (put H1 L.b (.inst cBuffer (setF 3 (.int (zv - (ei - si))) (bufF L bg zv pt tk ck)))):=S1.putB (tk:=tk) (ck:=ck) rfl
 apply at_ put_at
 refine br (fun h3=>?_) fun h3=>?_
 ·apply at_ put_at
  apply sa_ put_at
  refine q _ ?_ ((F1.gap.put L.b_mem).put L.b_mem)
  unfold outPt
  rw [if_pos h3]
  exact S2.putB (tk:=tk) (ck:=ck) rfl
 ·refine q _ ?_ (F1.gap.put L.b_mem)
  unfold outPt
  rw [if_neg h3]
  exact S2
theorem c_text_in (S:BufR L full bg zv pt ps M H) {s:Nat} {ys:List Int} (hs:s≤full.length) (hy:ys.length≤10000) (hM:M+ys.length+8≤40000) {si:Int} (hsi:si=s+1)
  (q:∀ H',BufR L (full.take s++ys++full.drop s) bg (zv+ys.length) (if pt > si then pt+ys.length else pt) ps (M+ys.length+8) H'→Fr L.all H H'→Q .none H'):CallW g 5 90 [.ref L.b,.int si,.lst (vints ys)] Q X H:=by
 refine el_EE S.ib fun tk ck h=>?_
 obtain ⟨A,G,B,e0,h1,h2⟩:=S.ig
 refine D.text_in.w rfl ?_
 apply at_ h
 refine brF ?_
 apply at_ h
 apply me_ h2.it
 conv=>whnf
 rw [show si - 1=(s:Int) by exact ln 0x8417c1f2c601a12002c91260100111 rfl hsi]
 refine (c_iinsert D S.ig (ln 0x41f1b0000c3503011b00009c40398291101120 rfl hM) hs hy fun H1 g1 F1=>?_).up (by exact Nat.le_refl _)
 have S1:=S.gap hM F1 g1
 refine el_EE S1.ib fun tk ck h=>?_
 apply at_ h
 apply sa_ h
 rw [vints_len]
 have S2:BufR L (full.take s++ys++full.drop s) bg (zv+ys.length) pt ps (M+ys.length+8) (put H1 L.b (.inst cBuffer (setF 3 (.int (zv+ys.length)) (bufF L bg zv pt tk ck)))):=S1.putB (tk:=tk) (ck:=ck) rfl
 apply at_ put_at
 refine br (fun h3=>?_) fun h3=>?_
 ·apply at_ put_at
  apply sa_ put_at
  refine q _ ?_ ((F1.gap.put L.b_mem).put L.b_mem)
  rw [if_pos h3,vints_len]
  exact S2.putB (tk:=tk) (ck:=ck) rfl
 ·refine q _ ?_ (F1.gap.put L.b_mem)
  rw [if_neg h3]
  exact S2
end
end Mine
namespace Mine
section
variable {g:G} (D:Defs g)
include D
variable {L:Lay} {full:List Int} {bg zv pt:Int} {ps:List Int} {M:Nat} {H:Hp} {Q:QV} {X:QX}
theorem c_put_in_nil (S:BufR L full bg zv pt ps M H) {si:Int} (h1:bg≤si) (h2:si≤zv) {o1 o2:V} (q:Q .none H):CallW g 6 111 [.ref L.b,.int si,.lst (vints []),o1,o2] Q X H:=by
 refine D.put_in.w rfl ?_
 refine (c_need_writable D S ?_).up (by exact Nat.succ_pos _)
 have e1:(if si < si then si else si)=si:=by split<;>rfl
 have e2:(if si > si then si else si)=si:=by split<;>rfl
 refine (c_reached D S (s:=si) (e:=si) (fun h=>by rw [e1] at h;exact False.elim (h.elim (fun u60=>ln 0x41f1c00100c1000002 rfl h1 u60) fun u60=>ln 0x41f1c10003c1000002 rfl h2 u60)) fun u0=>?_).up (by exact Nat.succ_pos _)
 exact brT q
theorem c_put_in (S:BufR L full bg zv pt ps M H) {s:Nat} {si:Int} (hsi:si=s+1) (h1:bg≤si) (h2:si≤zv) (hs:s≤full.length) {ys:List Int} (hy:0 < ys.length) (hy2:ys.length≤10000) (hM:M+ys.length+8≤40000) {before behind:Bool}
  (q:∀ H',BufR L (full.take s++ys++full.drop s) bg (zv+ys.length) (if behind then si+ys.length else if pt > si then pt+ys.length else pt) (mapM (insF si (si+ys.length) before) L.ks ps) (M+ys.length+8) H'→Fr L.all H H'→Q .none H') :
  CallW g 9 111 [.ref L.b,.int si,.lst (vints ys),.bool before,.bool behind] Q X H:=by
 refine D.put_in.w rfl ?_
 refine (c_need_writable D S ?_).up (by exact Nat.succ_pos _)
 have e1:(if si < si then si else si)=si:=by split<;>rfl
 have e2:(if si > si then si else si)=si:=by split<;>rfl
 refine (c_reached D S (s:=si) (e:=si) (fun h=>by rw [e1] at h;exact False.elim (h.elim (fun u60=>ln 0x41f1c00100c1000002 rfl h1 u60) fun u60=>ln 0x41f1c10003c1000002 rfl h2 u60)) fun u0=>?_).up (by exact Nat.succ_pos _)
 refine br (fun h=>absurd h (len_ne hy)) fun u0=>?_
 conv=>whnf
 rw [vints_len]
 refine (c_need_room D S (ln 0x41f1c000186a036111b00009c40398291101120 rfl hM) ?_).up (by exact Nat.le_of_ble_eq_true rfl)
 refine (c_tell_ahead D S ?_).up (by exact Nat.le_of_ble_eq_true rfl)
 refine (c_text_in D S hs hy2 hM hsi fun H1 S1 F1=>?_).up (by exact Nat.le_of_ble_eq_true rfl)
 refine el_EE S1.ib fun tk ck h=>?_
 have rest:∀ (H2:Hp) (pt2:Int),BufR L (full.take s++ys++full.drop s) bg (zv+ys.length) pt2 ps (M+ys.length+8) H2→Fr L.all H H2→pt2=(if behind then si+ys.length else if pt > si then pt+ys.length else pt) →
   wSs g 8 [.ex (.meth (.attr (.var 0) 10) 10 (.cons (.var 1) (.cons (.bin .add (.var 1) (.bcall .len (.cons (.var 2) (.nil)))) (.cons (.var 3) (.nil))))),.ex (.call 18 (.cons (.var 0) (.cons (.var 1) (.cons (.bcall .len (.cons (.var 2) (.nil))) (.cons (.var 3) (.nil)))))),.ex (.call 14 (.cons (.var 0) (.cons (.var 1) (.cons (.bin .add (.var 1) (.bcall .len (.cons (.var 2) (.nil)))) (.cons (.int 0) (.nil))))))]
    (startLoc ([.ref L.b,.int si,.lst (vints ys),.bool before,.bool behind]++[]) 13) (fun u0 H=>Q .none H) Q X H2:=by
  intro H2 pt2 S2 F2 e
  refine el_EE S2.ib fun tk ck h=>?_
  apply at_ h
  apply me_ S2.im.im
  conv=>whnf
  rw [vints_len]
  refine (c_minserted D S2.im S2.ndm S2.hk fun H3 m3 F3=>?_).up (by exact Nat.le_of_ble_eq_true rfl)
  have S3:=S2.marks F3 m3
  refine (c_hung_in D S3 ?_).up (by exact Nat.succ_pos _)
  refine (c_tell_behind D S3 fun H4 S4 F4=>?_).up (by exact Nat.le_of_ble_eq_true rfl)
  rw [e] at S4
  exact q _ S4 (F2.trans (F3.marks.trans (F4.more fun a ha=>by rw [List.mem_singleton.mp ha];exact L.b_mem)))
 refine brb (fun hb=>?_) fun hb=>?_
 ·apply sa_ h
  rw [vints_len]
  refine rest _ (si+ys.length) (S1.putB (tk:=tk) (ck:=ck) rfl) (F1.put L.b_mem) (by rw [hb,if_pos rfl])
 ·exact rest _ _ S1 F1 (by simp [hb])
theorem c_insert_at (S:BufR L full bg zv pt ps M H) {s:Nat} {si:Int} (hsi:si=s+1) (h1:bg≤si) (h2:si≤zv) (hs:s≤full.length) {ys:List Int} (hy:0 < ys.length) (hy2:ys.length≤10000) (hM:M+ys.length+8≤40000)
  (q:∀ H',BufR L (full.take s++ys++full.drop s) bg (zv+ys.length) (if pt > si then pt+ys.length else pt) (mapM (insF si (si+ys.length) false) L.ks ps) (M+ys.length+8) H'→Fr L.all H H'→Q .none H') :
  CallW g 11 119 [.ref L.b,.int si,.lst (vints ys)] Q X H:=by
 refine D.insert_at.w rfl ?_
 refine (c_put_in D S hsi h1 h2 hs hy hy2 hM fun H' S' F'=>?_).up (by decide)
 exact q H' S' F'
theorem c_insert_at_nil (S:BufR L full bg zv pt ps M H) {si:Int} (h1:bg≤si) (h2:si≤zv) (q:Q .none H) :
  CallW g 11 119 [.ref L.b,.int si,.lst (vints [])] Q X H:=by
 refine D.insert_at.w rfl ?_
 refine (c_put_in_nil D S h1 h2 ?_).up (by exact Nat.le_of_ble_eq_true rfl)
 exact q
theorem c_insert (S:BufR L full bg zv pt ps M H) {s:Nat} (hsi:pt=s+1) (h1:bg≤pt) (h2:pt≤zv) (hs:s≤full.length) {ys:List Int} (hy:0 < ys.length) (hy2:ys.length≤10000) (hM:M+ys.length+8≤40000)
  (q:∀ H',BufR L (full.take s++ys++full.drop s) bg (zv+ys.length) (pt+ys.length) (mapM (insF pt (pt+ys.length) false) L.ks ps) (M+ys.length+8) H'→Fr L.all H H'→Q .none H') :
  CallW g 11 127 [.ref L.b,.lst (vints ys)] Q X H:=by
 refine el_EE S.ib fun tk ck h=>?_
 refine D.insert.w rfl ?_
 apply at_ h
 refine (c_put_in D S hsi h1 h2 hs hy hy2 hM fun H' S' F'=>?_).up (by exact Nat.le_refl _)
 exact q H' S' F'
theorem c_insert_nil (S:BufR L full bg zv pt ps M H) (h1:bg≤pt) (h2:pt≤zv) (q:Q .none H) :
  CallW g 11 127 [.ref L.b,.lst (vints [])] Q X H:=by
 refine el_EE S.ib fun tk ck h=>?_
 refine D.insert.w rfl ?_
 apply at_ h
 refine (c_put_in_nil D S h1 h2 ?_).up (by decide)
 exact q
theorem minmax_le {s e:Int} (h:s≤e):(if e < s then e else s)=s∧(if e > s then e else s)=e:=by
 constructor
 ·rw [if_neg (by exact ln 0x41f8c00101c1000102 rfl h)]
 ·by_cases q:e > s
  ·rw [if_pos q]
  ·rw [if_neg q];exact Int.le_antisymm h (Int.not_lt.mp q)
theorem c_delete (S:BufR L full bg zv pt ps M H) {s e:Nat} {si ei:Int} (hsi:si=s+1) (hei:ei=e+1) (h1:bg≤si) (h2:ei≤zv) (hse:s < e) (he:e≤full.length)
  (q:∀ v H',BufR L (full.take s++full.drop e) bg (zv - (ei - si)) (outPt si ei pt) (mapM (delF si ei) L.ks ps) M H'→Fr L.all H H'→Q v H'):CallW g 8 134 [.ref L.b,.int si,.int ei] Q X H:=by
 refine D.delete.w rfl ?_
 refine (c_need_writable D S ?_).up (by exact Nat.succ_pos _)
 obtain ⟨m1,m2⟩:=minmax_le D (s:=si) (e:=ei) (ln 0x5f841f1c00102c912601102c912611000b1101122 rfl hsi hei hse)
 refine (c_reached D S (s:=si) (e:=ei) (fun h=>by rw [m1,m2] at h;exact False.elim (h.elim (fun u60=>ln 0x41f1c00100c1000002 rfl h1 u60) fun u60=>ln 0x41f1c10003c1000002 rfl h2 u60)) fun u0=>?_).up (by exact Nat.succ_pos _)
 rw [m1,m2]
 refine br (fun h=>False.elim (ln 0x7c17e1f2c912601002c912611100b11012c1000022 rfl hsi hei hse h)) fun u0=>?_
 refine (c_tell_ahead D S ?_).up (by exact Nat.le_of_ble_eq_true rfl)
 refine (c_text_out D S (ln 0x41f1b11010b1101120 rfl hse) he hsi hei fun H1 S1 F1=>?_).up (by exact Nat.le_succ _)
 refine el_EE S1.ib fun tk ck h=>?_
 apply at_ h
 apply me_ S1.im.im
 refine (c_mdeleted D S1.im S1.ndm S1.hk fun H3 m3 F3=>?_).up (by exact Nat.le_of_ble_eq_true rfl)
 have S3:=S1.marks F3 m3
 refine (c_hung_out D S3 ?_).up (by exact Nat.succ_pos _)
 refine (c_tell_behind D S3 fun H4 S4 F4=>?_).up (by exact Nat.le_of_ble_eq_true rfl)
 exact q _ _ S4 (F1.trans (F3.marks.trans (F4.more fun a ha=>by rw [List.mem_singleton.mp ha];exact L.b_mem)))
noncomputable def repPt (si ei n pt:Int):Int:=if pt ≥ ei then pt+n - (ei - si) else if outPt si ei pt > si then outPt si ei pt+n else outPt si ei pt
theorem c_replace (S:BufR L full bg zv pt ps M H) {s e:Nat} {si ei:Int} (hsi:si=s+1) (hei:ei=e+1) (h1:bg≤si) (h2:ei≤zv) (hse:s < e) (he:e≤full.length) {ys:List Int} (hy:0 < ys.length) (hy2:ys.length≤10000) (hM:M+ys.length+8≤40000)
  (q:∀ v H',BufR L (full.take s++ys++full.drop e) bg (zv - (ei - si)+ys.length) (repPt si ei ys.length pt) (mapM (repF si ei ys.length) L.ks ps) (M+ys.length+8) H'→Fr L.all H H'→Q v H'):CallW g 8 142 [.ref L.b,.int si,.int ei,.lst (vints ys)] Q X H:=by
 refine el_EE S.ib fun tk ck h=>?_
 refine D.replace.w rfl ?_
 refine (c_need_writable D S ?_).up (by decide)
 obtain ⟨m1,m2⟩:=minmax_le D (s:=si) (e:=ei) (ln 0x5f841f1c00102c912601102c912611000b1101122 rfl hsi hei hse)
 refine (c_reached D S (s:=si) (e:=ei) (fun h=>by rw [m1,m2] at h;exact False.elim (h.elim (fun u60=>ln 0x41f1c00100c1000002 rfl h1 u60) fun u60=>ln 0x41f1c10003c1000002 rfl h2 u60)) fun u0=>?_).up (by decide)
 rw [m1,m2]
 refine br (fun h=>False.elim (ln 0x7c17e1f2c912601002c912611100b11012c1000022 rfl hsi hei hse h)) fun u0=>?_
 refine br (fun h=>absurd h (len_ne hy)) fun u0=>?_
 conv=>whnf
 rw [vints_len]
 refine (c_need_room D S (Int.le_trans (Int.sub_le_self _ (Int.sub_nonneg_of_le (show si≤ei from ln 0x5f841f1c00102c912601102c912611000b1101122 rfl hsi hei hse))) (show ((ys.length:Nat):Int)≤100000 by exact ln 0x41f1c000186a036111b00009c40398291101120 rfl hM)) ?_).up (by decide)
 apply at_ h
 refine (c_tell_ahead D S ?_).up (by decide)
 refine (c_text_out D S (by exact ln 0x41f1b11010b1101120 rfl hse) he hsi hei fun H1 S1 F1=>?_).up (by decide)
 refine (c_text_in D S1 (s:=s) (by simp;exact ln 0x7df041f1b90131411b21112b41312b2191101150 rfl he (Nat.min_eq_left (ln 0x1041f1b11210b01211b1101130 rfl hse he)) (Nat.sub_add_cancel he)) hy2 hM hsi fun H2 S2 F2=>?_).up (by decide)
 have et:(full.take s++full.drop e).take s++ys++(full.take s++full.drop e).drop s=full.take s++ys++full.drop e:=by
  rw [List.take_left' (by simp;exact ln 0x8417c1f2b11012b1101120 rfl (Nat.min_eq_left (ln 0x1041f1b11210b01211b1101130 rfl hse he))),List.drop_left' (by simp;exact ln 0x8417c1f2b11012b1101120 rfl (Nat.min_eq_left (ln 0x1041f1b11210b01211b1101130 rfl hse he)))]
 rw [et] at S2
 have rest:∀ (H2:Hp) (pt2:Int),BufR L (full.take s++ys++full.drop e) bg (zv - (ei - si)+ys.length) pt2 ps (M+ys.length+8) H2→Fr L.all H H2→pt2=repPt si ei ys.length pt →
   wSs g 7 [.ex (.meth (.attr (.var 0) 10) 12 (.cons (.var 5) (.cons (.var 6) (.cons (.bcall .len (.cons (.var 3) (.nil))) (.nil))))),.ex (.call 18 (.cons (.var 0) (.cons (.var 6) (.cons (.bcall .len (.cons (.var 3) (.nil))) (.cons (.bool true) (.nil)))))),.ex (.call 17 (.cons (.var 0) (.cons (.var 5) (.cons (.var 6) (.nil))))),.ifs (.cmp .IsNot (.var 4) (.none)) [.dead] [],.ex (.call 14 (.cons (.var 0) (.cons (.var 5) (.cons (.bin .add (.var 5) (.bcall .len (.cons (.var 3) (.nil)))) (.cons (.bin .sub (.var 6) (.var 5)) (.nil)))))),.ret (.var 8)]
    [some (.ref L.b),some (.int si),some (.int ei),some (.lst (vints ys)),some .none,some (.int si),some (.int ei),some (.int pt),some (.lst (vints ((full.drop s).take (e - s)))),none,none,none,none,none,none,none,none,none,none,none,none] (fun u0 H=>Q .none H) Q X H2:=by
  intro H2 pt2 S2 F2 e
  refine el_EE S2.ib fun tk ck h=>?_
  apply at_ h
  apply me_ S2.im.im
  conv=>whnf
  rw [vints_len]
  refine (c_mreplaced D S2.im S2.ndm S2.hk fun H3 m3 F3=>?_).up (by decide)
  have S3:=S2.marks F3 m3
  refine (c_hung_in D S3 ?_).up (by decide)
  refine (c_hung_out D S3 ?_).up (by decide)
  refine brF ?_
  refine (c_tell_behind D S3 fun H4 S4 F4=>?_).up (by decide)
  rw [e] at S4
  exact q _ _ S4 (F2.trans (F3.marks.trans (F4.more fun a ha=>by rw [List.mem_singleton.mp ha];exact L.b_mem)))
 refine br (fun hb=>?_) fun hb=>?_
 ·refine el_EE S2.ib fun tk ck h=>?_
  apply sa_ h
  rw [vints_len]
  exact rest _ (pt+ys.length - (ei - si)) (S2.putB (tk:=tk) (ck:=ck) rfl) ((F1.trans F2).put L.b_mem) (by unfold repPt;rw [if_pos hb])
 ·exact rest _ _ S2 (F1.trans F2) (by unfold repPt;rw [if_neg hb])
theorem c_replace_del (S:BufR L full bg zv pt ps M H) {s e:Nat} {si ei:Int} (hsi:si=s+1) (hei:ei=e+1) (h1:bg≤si) (h2:ei≤zv) (hse:s < e) (he:e≤full.length)
  (q:∀ v H',BufR L (full.take s++full.drop e) bg (zv - (ei - si)) (outPt si ei pt) (mapM (delF si ei) L.ks ps) M H'→Fr L.all H H'→Q v H'):CallW g 10 142 [.ref L.b,.int si,.int ei,.lst (vints [])] Q X H:=by
 refine D.replace.w rfl ?_
 refine (c_need_writable D S ?_).up (by exact Nat.succ_pos _)
 obtain ⟨m1,m2⟩:=minmax_le D (s:=si) (e:=ei) (ln 0x5f841f1c00102c912601102c912611000b1101122 rfl hsi hei hse)
 refine (c_reached D S (s:=si) (e:=ei) (fun h=>by rw [m1,m2] at h;exact False.elim (h.elim (fun u60=>ln 0x41f1c00100c1000002 rfl h1 u60) fun u60=>ln 0x41f1c10003c1000002 rfl h2 u60)) fun u0=>?_).up (by exact Nat.succ_pos _)
 rw [m1,m2]
 refine br (fun h=>False.elim (ln 0x7c17e1f2c912601002c912611100b11012c1000022 rfl hsi hei hse h)) fun u0=>?_
 refine brT ?_
 exact (c_delete D S hsi hei h1 h2 hse he q).up (by exact Nat.le_refl _)
theorem c_replace_ins (S:BufR L full bg zv pt ps M H) {s:Nat} {si:Int} (hsi:si=s+1) (h1:bg≤si) (h2:si≤zv) (hs:s≤full.length) {ys:List Int} (hy:0 < ys.length) (hy2:ys.length≤10000) (hM:M+ys.length+8≤40000)
  (q:∀ v H',BufR L (full.take s++ys++full.drop s) bg (zv+ys.length) (if pt > si then pt+ys.length else pt) (mapM (insF si (si+ys.length) false) L.ks ps) (M+ys.length+8) H'→Fr L.all H H'→Q v H') :
  CallW g 14 142 [.ref L.b,.int si,.int si,.lst (vints ys)] Q X H:=by
 refine D.replace.w rfl ?_
 refine (c_need_writable D S ?_).up (by decide)
 obtain ⟨m1,m2⟩:=minmax_le D (s:=si) (e:=si) (ln 0x1f1c0000101 rfl)
 refine (c_reached D S (s:=si) (e:=si) (fun h=>by rw [m1] at h;exact False.elim (h.elim (fun u60=>ln 0x41f1c00100c1000002 rfl h1 u60) fun u60=>ln 0x41f1c10003c1000002 rfl h2 u60)) fun u0=>?_).up (by decide)
 rw [m1]
 refine br (fun h=>?_) fun h=>absurd rfl h
 refine (c_insert_at D S hsi h1 h2 hs hy hy2 hM fun H' S' F'=>?_).up (by decide)
 exact ⟨by decide,.inl (q _ H' S' F')⟩
theorem c_replace_nil (S:BufR L full bg zv pt ps M H) {si:Int} (h1:bg≤si) (h2:si≤zv) (q:∀ v,Q v H):CallW g 14 142 [.ref L.b,.int si,.int si,.lst (vints [])] Q X H:=by
 refine D.replace.w rfl ?_
 refine (c_need_writable D S ?_).up (by exact Nat.succ_pos _)
 obtain ⟨m1,m2⟩:=minmax_le D (s:=si) (e:=si) (ln 0x1f1c0000101 rfl)
 refine (c_reached D S (s:=si) (e:=si) (fun h=>by rw [m1] at h;exact False.elim (h.elim (fun u60=>ln 0x41f1c00100c1000002 rfl h1 u60) fun u60=>ln 0x41f1c10003c1000002 rfl h2 u60)) fun u0=>?_).up (by exact Nat.succ_pos _)
 rw [m1]
 refine br (fun h=>?_) fun h=>absurd rfl h
 refine (c_insert_at_nil D S h1 h2 ?_).up (by exact Nat.le_succ _)
 exact ⟨by exact Nat.zero_le _,.inl (q _)⟩
end
end Mine
namespace Mine
theorem seg_to {l:List Int} {s n N:Nat} (h:l.length≤50) (h2:50≤N):((l.drop s).take n).length≤N:=
 Nat.le_trans (List.length_take_le' _ _) (Nat.le_trans (List.length_drop▸Nat.sub_le _ _) (Nat.le_trans h h2))
structure St where
 text:List Int
 pt:Int
 ps:List Int
noncomputable def Buf (L:Lay) (pre post:List Int) (S:St) (M:Nat) (H:Hp):Prop:=
 BufR L (pre++S.text++post) (1+(pre.length:Int)) (1+(pre.length:Int)+(S.text.length:Int)) (S.pt+pre.length) (S.ps.map fun p=>p+(pre.length:Int)) M H
noncomputable def mapA (f:Bool→Int→Int):List Bool→List Int→List Int
 | k::ks,p::ps=>f k p::mapA f ks ps
 | _,_=>[]
theorem mapM_shift (f fk:Bool→Int→Int) (k:Int) (h:∀ a p,fk a (p+k)=f a p+k):∀ (ks:Mks) (ps:List Int),mapM fk ks (ps.map fun p=>p+k)=(mapA f (ks.map (·.2)) ps).map fun p=>p+k
 | [],ps=>by cases ps<;>rfl
 | _::_,[]=>rfl
 | k0::ks,p::ps=>by simp [mapM,mapA,h,mapM_shift f fk k h ks ps]
theorem BufR.to {L:Lay} {f1 f2:List Int} {bg zv1 zv2 pt1 pt2:Int} {ps1 ps2:List Int} {M:Nat} {H:Hp} (S:BufR L f1 bg zv1 pt1 ps1 M H) (e1:f1=f2) (e2:zv1=zv2) (e3:pt1=pt2) (e4:ps1=ps2):BufR L f2 bg zv2 pt2 ps2 M H:=by
 subst e1 e2 e3 e4;exact S
theorem rel_take (pre t post:List Int) (s:Nat) (h:s≤t.length):(pre++t++post).take (pre.length+s)=pre++t.take s:=by
 rw [List.append_assoc,List.take_length_add_append,List.take_append_of_le_length h]
theorem rel_drop (pre t post:List Int) (s:Nat) (h:s≤t.length):(pre++t++post).drop (pre.length+s)=t.drop s++post:=by
 rw [List.append_assoc,List.drop_length_add_append,List.drop_append_of_le_length h]
theorem rel_get {pre t post:List Int} {k:Nat} (h:k < t.length):(pre++t++post)[pre.length+k]?=t[k]?:=by
 rw [List.append_assoc,List.getElem?_append_right (by exact ln 0x1f1b9110101120 rfl),Nat.add_sub_cancel_left,List.getElem?_append_left h]
noncomputable def Rd (g:G) (n:Nat) (f:Addr) (S:St) (args:Addr→Int→List V) (v:Int→V):Prop:=
 ∀ (L:Lay) (pre post:List Int) (M:Nat) (H:Hp) (Q:QV) (X:QX),Buf L pre post S M H→Q (v pre.length) H→CallW g n f (args L.b pre.length) Q X H
noncomputable def codeR (t:List Int) (p:Int):Int:=if p < 1∨p ≥ 1+(t.length:Int) then -1 else t.getD (p - 1).toNat 0
section
variable {g:G} (D:Defs g)
include D
theorem r_begin (S:St):Rd g 1 641 S (fun b u0=>[.ref b]) (fun k=>.int (1+k)):=by
 intro L pre post M H Q X B q
 refine el_EE B.ib fun tk ck h=>?_
 refine D.Buffer_begin.w rfl ?_
 apply at_ h
 exact q
theorem r_end (S:St):Rd g 1 648 S (fun b u0=>[.ref b]) (fun k=>.int (1+k+S.text.length)):=by
 intro L pre post M H Q X B q
 refine el_EE B.ib fun tk ck h=>?_
 refine D.Buffer_end.w rfl ?_
 apply at_ h
 exact q
theorem r_code_at (S:St) (p:Int):Rd g 3 662 S (fun b k=>[.ref b,.int (p+k)]) (fun u0=>.int (codeR S.text p)):=by
 intro L pre post M H Q X B q
 refine el_EE B.ib fun tk ck h=>?_
 obtain ⟨A,G,B',e,h1,h2⟩:=B.ig
 unfold codeR at q
 refine D.Buffer_code_at.w rfl ?_
 apply at_ h
 refine br (fun h3=>?_) fun h3=>?_
 ·rw [if_pos (.inl (ln 0x41f0c12000c960112960100111 rfl h3))] at q
  exact brT q
 ·apply at_ h
  refine br (fun h4=>?_) fun h4=>?_
  ·rw [if_pos (.inr (ln 0x41f4c961112004c9611960112960100121 rfl h4))] at q
   exact q
  ·rw [if_neg (fun u60=>u60.elim (fun u50=>ln 0x41f8c9601129601000c1200011 rfl h3 u50) fun u50=>ln 0x41fcc96019611129611004c96011200021 rfl h4 u50)] at q
   apply at_ h
   apply me_ h2.it
   conv=>whnf
   obtain ⟨j,hj⟩:∃ j:Nat,p - 1=j:=⟨(p - 1).toNat,ln 0x7c1841f2c601a12002ca1200601111 rfl (Int.toNat_of_nonneg (ln 0x41f1ca1200028c960112960100111 rfl h3))⟩
   rw [hj,Int.toNat_natCast] at q
   have hjl:j < S.text.length:=ln 0x1f041f0b2101cc96219611129611002c601a1200131 rfl h4 hj
   rw [show p+(pre.length:Int) - 1=((pre.length+j:Nat):Int) by exact ln 0x8417c1f2c690111a129611002c601a1200121 rfl hj]
   refine (c_icode D B.ig (x:=S.text.getD j 0) ?_ q).up (by decide)
   rw [rel_get hjl,List.getElem?_eq_getElem hjl];simp [List.getD,List.getElem?_eq_getElem hjl]
theorem r_codes (S:St) {s e:Nat} (hs:s≤e) (he:e≤S.text.length) {si ei:Int} (h1:si=s+1) (h2:ei=e+1):Rd g 3 669 S (fun b k=>[.ref b,.int (si+k),.int (ei+k)]) (fun u0=>.lst (vints ((S.text.drop s).take (e - s)))):=by
 intro L pre post M H Q X B q
 refine el_EE B.ib fun tk ck h=>?_
 obtain ⟨A,G,B',e0,h3,h4⟩:=B.ig
 refine D.Buffer_codes.w rfl ?_
 apply at_ h
 apply me_ h4.it
 conv=>whnf
 rw [show si+(pre.length:Int) - 1=((pre.length+s:Nat):Int) by exact ln 0x8417c1f2c690111a129611002c91260100121 rfl h1,show ei+(pre.length:Int) - 1=((pre.length+e:Nat):Int) by exact ln 0x8417c1f2c690111a129611002c91260100121 rfl h2]
 have hM:=B.hM
 refine (c_icodes D B.ig (by exact ln 0x41f1b0000c3503011b00009c40301110 rfl hM) (by exact ln 0x41f1b91121901211b1101130 rfl hs) (by simp;exact ln 0x41f1b92111011b1101130 rfl he) ?_).up (by decide)
 rw [rel_drop _ _ _ _ (by exact ln 0x1041f1b11211b01211b1101130 rfl hs he),show pre.length+e - (pre.length+s)=e - s by exact ln 0x7e10617c1f2b01312b92141991141312b2191101150 rfl (Nat.sub_add_cancel (ln 0x41f1b91121901211b1101130 rfl hs)) (Nat.sub_add_cancel hs),List.take_append_of_le_length (by simp;exact ln 0x1f041f1b91101311b21312b2191101140 rfl he (Nat.sub_add_cancel (ln 0x1041f1b11211b01211b1101130 rfl hs he)))]
 exact q
theorem line_start_loop (S:St):∀ p:Nat,1≤p→p≤S.text.length+1→∃ r:Nat,1≤r∧r≤p∧∀ (L:Lay) (pre post:List Int) (M:Nat) (H:Hp) (v0:V) (R:QV) (N P:QN),Buf L pre post S M H →
  (∀ m H,WB g 5 (condOf m_line_start 1) (bodyOf m_line_start 1) R N P m H→P m H)→N [some (.ref L.b),some v0,some (.int (r+pre.length)),none] H→P [some (.ref L.b),some v0,some (.int (p+pre.length)),none] H:=by
 intro p
 induction p with
 | zero=>intro h;exact False.elim (ln 0x1f1b0212000 rfl h)
 | succ p ih=>
  intro h1 h2
  by_cases hp:p=0
  ·subst hp
   refine (in_EAA 1 h1 h1 (fun L pre post M H v0 R N P B hP q=>hP _ _ ?_))
   refine el_EE B.ib fun tk ck h=>?_
   apply me_ h
   refine (r_begin D S L pre post M H _ _ B ?_).up (by decide)
   exact br (fun h=>by exact False.elim (ln 0x1f3c9601129601691202010 rfl h)) fun u0=>brF q
  ·by_cases hc:codeR S.text p=10
   ·refine (in_EAA (p+1) h1 (ln 0x1f1b9120191201110 rfl) (fun L pre post M H v0 R N P B hP q=>hP _ _ ?_))
    refine el_EE B.ib fun tk ck h=>?_
    apply me_ h
    refine (r_begin D S L pre post M H _ _ B ?_).up (by decide)
    refine br (fun u0=>?_) fun h=>absurd (show ((p+1:Nat):Int)+(pre.length:Int) > 1+(pre.length:Int) by have hp1:=Nat.pos_of_ne_zero hp;exact ln 0x41f3c96111296116912010b0102120 rfl hp1) h
    apply me_ h
    conv=>whnf
    rw [show ((p+1:Nat):Int)+(pre.length:Int) - 1=(p:Int)+(pre.length:Int) by exact ln 0x41f2c9611601a129611691201120 rfl]
    refine (r_code_at D S p L pre post M H _ _ B ?_).up (by decide)
    conv=>whnf
    rw [decide_eq_true hc]
    exact brF q
   ·refine el_EAA (ih (Nat.pos_of_ne_zero hp) (ln 0x41f1b91211011b9121191201120 rfl h2)) fun r h3 h4 hr=>?_
    refine (in_EAA r h3 (ln 0x41f1b91211011b1101120 rfl h4) (fun L pre post M H v0 R N P B hP q=>hP _ _ ?_))
    refine el_EE B.ib fun tk ck h=>?_
    apply me_ h
    refine (r_begin D S L pre post M H _ _ B ?_).up (by decide)
    refine br (fun u0=>?_) fun h=>False.elim (ln 0x1041f1b21121b0121bc9611129611691201030 rfl h3 h4 h)
    apply me_ h
    conv=>whnf
    rw [show ((p+1:Nat):Int)+(pre.length:Int) - 1=(p:Int)+(pre.length:Int) by exact ln 0x41f2c9611601a129611691201120 rfl]
    refine (r_code_at D S p L pre post M H _ _ B ?_).up (by decide)
    conv=>whnf
    rw [decide_eq_false hc]
    refine brT ?_
    have:=hr L pre post M H v0 R N P B hP q
    rw [show (p:Int)+(pre.length:Int)=((p+1:Nat):Int)+(pre.length:Int) - 1 by exact ln 0x41f2ca1296116912019611601120 rfl] at this
    exact this
theorem r_line_start (S:St) {p:Int} (h1:1≤p) (h2:p≤S.text.length+1):∃ r:Int,1≤r∧r≤p∧Rd g 7 149 S (fun b k=>[.ref b,.int (p+k)]) (fun k=>.int (r+k)):=by
 obtain ⟨n,rfl⟩:∃ n:Nat,p=n:=⟨p.toNat,ln 0x7c1841f2c601002c00601111 rfl (Int.toNat_of_nonneg (ln 0x41f1c00021c0012101 rfl h1))⟩
 refine el_EAA (line_start_loop D S n (ln 0x41f1b01121c60112110 rfl h1) (ln 0x41f1b91211011c912611601120 rfl h2)) fun r h3 h4 h=>?_
 refine (in_EAA r (ln 0x41f1c601121b0112110 rfl h3) (ln 0x41f1c6116011b1101120 rfl h4) (fun L pre post M H Q X B q=>?_))
 refine D.line_start.w rfl ?_
 refine ⟨fun P hP=>?_⟩
 exact h L pre post M H _ _ _ P B hP q
theorem line_end_loop (S:St):∀ (d p:Nat),1≤p→p+d=S.text.length+1→∃ r:Nat,p≤r∧r≤S.text.length+1∧∀ (L:Lay) (pre post:List Int) (M:Nat) (H:Hp) (v0:V) (R:QV) (N P:QN),Buf L pre post S M H →
  (∀ m H,WB g 5 (condOf m_line_end 1) (bodyOf m_line_end 1) R N P m H→P m H)→N [some (.ref L.b),some v0,some (.int (r+pre.length)),none] H→P [some (.ref L.b),some v0,some (.int (p+pre.length)),none] H:=by
 intro d
 induction d with
 | zero=>
  intro p h1 h2
  refine (in_EAA p (ln 0x1f1b0101110 rfl) (ln 0x841f1b91211012b9121190201120 rfl h2) (fun L pre post M H v0 R N P B hP q=>hP _ _ ?_))
  refine el_EE B.ib fun tk ck h=>?_
  apply me_ h
  refine (r_end D S L pre post M H _ _ B ?_).up (by exact Nat.succ_pos _)
  exact br (fun h=>False.elim (ln 0x5ff2b91221902010c96219611129611601030 rfl h2 h)) fun u0=>brF q
 | succ d ih=>
  intro p h1 h2
  by_cases hc:codeR S.text p=10
  ·refine (in_EAA p (ln 0x1f1b0101110 rfl) (ln 0x841f1b91221012b9122199121101130 rfl h2) (fun L pre post M H v0 R N P B hP q=>hP _ _ ?_))
   refine el_EE B.ib fun tk ck h=>?_
   apply me_ h
   refine (r_end D S L pre post M H _ _ B ?_).up (by exact Nat.succ_pos _)
   refine br (fun u0=>?_) fun h=>False.elim (ln 0x61f2b91221991231018c96219611129611601040 rfl h2 h)
   apply me_ h
   refine (r_code_at D S p L pre post M H _ _ B ?_).up (by exact Nat.le_succ _)
   conv=>whnf
   rw [decide_eq_true hc]
   exact brF q
  ·refine el_EAA (ih (p+1) (ln 0x1f1b9120112110 rfl) (ln 0x8417c1f2b91221911912012b9122199121101130 rfl h2)) fun r h3 h4 hr=>?_
   refine (in_EAA r (ln 0x41f1b11011b1191201120 rfl h3) h4 (fun L pre post M H v0 R N P B hP q=>hP _ _ ?_))
   refine el_EE B.ib fun tk ck h=>?_
   apply me_ h
   refine (r_end D S L pre post M H _ _ B ?_).up (by exact Nat.succ_pos _)
   refine br (fun u0=>?_) fun h=>False.elim (ln 0x1041f1b31912011b91221318c96219611129611601040 rfl h3 h4 h)
   apply me_ h
   refine (r_code_at D S p L pre post M H _ _ B ?_).up (by exact Nat.le_succ _)
   conv=>whnf
   rw [decide_eq_false hc]
   refine brT ?_
   have:=hr L pre post M H v0 R N P B hP q
   rw [show ((p+1:Nat):Int)+(pre.length:Int)=(p:Int)+(pre.length:Int)+1 by exact ln 0x41f2c91296116019611691201120 rfl] at this
   exact this
theorem r_line_end (S:St) {p:Int} (h1:1≤p) (h2:p≤S.text.length+1):∃ r:Int,p≤r∧r≤S.text.length+1∧Rd g 7 156 S (fun b k=>[.ref b,.int (p+k)]) (fun k=>.int (r+k)):=by
 obtain ⟨n,rfl⟩:∃ n:Nat,p=n:=⟨p.toNat,ln 0x7c1841f2c601002c00601111 rfl (Int.toNat_of_nonneg (ln 0x41f1c00021c0012101 rfl h1))⟩
 refine el_EAA (line_end_loop D S (S.text.length+1 - n) n (ln 0x41f1b01121c60112110 rfl h1) (ln 0x8417c1f2b91221901112b9122191101130 rfl (Nat.sub_add_cancel (ln 0x41f1b91211011c912611601120 rfl h2)))) fun r h3 h4 h=>?_
 refine (in_EAA r (ln 0x41f1c6116011b1101120 rfl h3) (ln 0x41f1c9126116011b9121101120 rfl h4) (fun L pre post M H Q X B q=>?_))
 refine D.line_end.w rfl ?_
 refine ⟨fun P hP=>?_⟩
 exact h L pre post M H _ _ _ P B hP q
end
end Mine
namespace Mine
theorem gt_3 {x k t:Int}:x+k > 1+k+t↔x > 1+t:=⟨fun h=>by exact ln 0x41f3c92012003c9209101291000103 rfl h,fun h=>by exact ln 0x41f3c91092012920003c9101200103 rfl h⟩
theorem if_shift {c d:Prop} [Decidable c] [Decidable d] (h:c↔d) {x y x' y' k:Int} (hx:x=x'+k) (hy:y=y'+k):(if c then x else y)=(if d then x' else y')+k:=by
 by_cases e:d
 ·rw [if_pos e,if_pos (h.mpr e),hx]
 ·rw [if_neg e,if_neg fun q=>e (h.mp q),hy]
theorem gt_k {a b:Int} (k:Int):a+k > b+k↔a > b:=Int.add_lt_add_iff_right k
theorem dif_k (p s e k:Int):p+k - (e+k - (s+k))=p - (e - s)+k:=ln 0x41f2c910aa302000aa910309102091000104 rfl
theorem insF_shift (s e k:Int) (isb:Bool) (a:Bool) (p:Int):insF (s+k) (e+k) isb a (p+k)=insF s e isb a p+k:=
 if_shift (or_congr (gt_k k) (and_congr_left' ⟨fun h=>by exact ln 0x8417c1f2c20002c9102091000103 rfl h,congrArg (·+k)⟩)) (by exact ln 0x41f2c910a3092000a9103099102091000104 rfl) rfl
theorem delF_shift (s e k:Int) (a:Bool) (p:Int):delF (s+k) (e+k) a (p+k)=delF s e a p+k:=
 if_shift (gt_k k) (dif_k p s e k) (if_shift (gt_k k) rfl rfl)
theorem repF_shift (s e n k:Int) (a:Bool) (p:Int):repF (s+k) (e+k) n a (p+k)=repF s e n a p+k:=
 if_shift (Int.add_le_add_iff_right k) (ln 0x41f2c910aa403092000aa910409103092091000105 rfl) (if_shift (gt_k k) rfl rfl)
theorem outPt_shift (s e k p:Int):outPt (s+k) (e+k) (p+k)=outPt s e p+k:=by
 unfold outPt;rw [dif_k];exact if_shift (gt_k k) (if_shift (gt_k k) rfl rfl) rfl
theorem repPt_shift (s e n k p:Int):repPt (s+k) (e+k) n (p+k)=repPt s e n p+k:=by
 unfold repPt;rw [outPt_shift];exact if_shift (Int.add_le_add_iff_right k) (ln 0x41f2c910aa403092000aa910409103092091000105 rfl) (if_shift (gt_k k) (Int.add_right_comm ..) rfl)
noncomputable def Does (g:G) (n:Nat) (f:Addr) (adv:List Bool) (S:St) (args:Addr→Int→List V) (o:V ⊕ Str) (S':St) (d:Nat):Prop:=
 ∀ (L:Lay) (pre post:List Int) (M:Nat) (H:Hp) (Q:QV) (X:QX),L.ks.map (·.2)=adv→M+d≤40000→Buf L pre post S M H →
  (∀ H' M',M'≤M+d→Buf L pre post S' M' H'→Fr L.all H H'→match o with | .inl v=>Q v H' | .inr s=>X s H')→CallW g n f (args L.b pre.length) Q X H
section
variable {g:G} (D:Defs g)
include D
theorem r_reached (S:St) (s e:Int) (L:Lay) (pre post:List Int) (M:Nat) (H:Hp) (Q:QV) (X:QX) (B:Buf L pre post S M H)
  (hx:((if e < s then e else s) < 1∨(if e > s then e else s) > 1+(S.text.length:Int))→X (Str.ofString "args-out-of-range") H)
  (q:¬((if e < s then e else s) < 1∨(if e > s then e else s) > 1+(S.text.length:Int))→Q (.tup [.int ((if e < s then e else s)+(pre.length:Int)),.int ((if e > s then e else s)+(pre.length:Int))]) H) :
  CallW g 1 62 [.ref L.b,.int (s+pre.length),.int (e+pre.length)] Q X H:=by
 have e1:(if e+(pre.length:Int) < s+(pre.length:Int) then e+(pre.length:Int) else s+(pre.length:Int))=(if e < s then e else s)+(pre.length:Int):=if_shift (Int.add_lt_add_iff_right _) rfl rfl
 have e2:(if e+(pre.length:Int) > s+(pre.length:Int) then e+(pre.length:Int) else s+(pre.length:Int))=(if e > s then e else s)+(pre.length:Int):=if_shift (gt_k _) rfl rfl
 refine c_reached D B (fun h=>hx ?_) fun h=>?_
 ·rw [e1,e2] at h;exact h.imp (fun u=>Int.lt_of_add_lt_add_right u) fun u=>gt_3.mp u
 ·rw [e1,e2] at h ⊢;exact q fun v=>h (v.imp (fun u=>Int.add_lt_add_right u _) fun u=>gt_3.mpr u)
theorem d_delete (adv:List Bool) (S:St) {lo hi:Int} (h1:1≤lo) (h2:lo < hi) (h3:hi≤S.text.length+1):∃ S',S'.text.length+(hi - lo).toNat=S.text.length∧∀ (L:Lay) (pre post:List Int) (M:Nat) (H:Hp) (Q:QV) (X:QX),L.ks.map (·.2)=adv→Buf L pre post S M H →
  (∀ v H',Buf L pre post S' M H'→Fr L.all H H'→Q v H')→CallW g 8 134 [.ref L.b,.int (lo+pre.length),.int (hi+pre.length)] Q X H:=by
 obtain ⟨s,hs⟩:∃ s:Nat,lo=s+1:=⟨(lo - 1).toNat,ln 0x7c1841f2c912601002ca1200601111 rfl (Int.toNat_of_nonneg (ln 0x41f1ca1200021c0012101 rfl h1))⟩
 obtain ⟨e,he⟩:∃ e:Nat,hi=e+1:=⟨(hi - 1).toNat,ln 0x7c1841f2c912601002ca1200601111 rfl (Int.toNat_of_nonneg (ln 0x1041f1ca1210021c00120c1000102 rfl h1 h2))⟩
 refine (in_EA ⟨S.text.take s++S.text.drop e,outPt lo hi S.pt,mapA (delF lo hi) adv S.ps⟩ (by simp;exact ln 0x8618617c17df7df841f2b31901911412c912651102c912621002b51412b31921112ca1000601162 rfl hs he (Nat.min_eq_left (ln 0x7c1041f1b11010c10001c912611102c91260100122 rfl h2 h3 hs)) (Nat.sub_add_cancel (ln 0x1f041f1b11011c912611002c91260100121 rfl h3 he)) (Int.toNat_of_nonneg (ln 0x41f1ca0010020c1000102 rfl h2))) (fun L pre post M H Q X ha B q=>?_))
 subst ha
 refine c_delete D B (s:=pre.length+s) (e:=pre.length+e) (ln 0x8417c1f2c9126901119611002c91260100121 rfl hs) (ln 0x8417c1f2c9126901119611002c91260100121 rfl he) (ln 0x7c1f1c9611009611122c91260100121 rfl hs) (by exact ln 0x41f1c96019611129611001c91260100121 rfl h3) (ln 0x85f041f0b90121911210c00102c912611102c91260100132 rfl h2 hs he) (by simp;exact ln 0x1f041f1b92111011c912611002c91260100131 rfl h3 he) fun v H' B' F=>q v H' ?_ F
 refine B'.to ?_ ?_ (outPt_shift _ _ _ _) (mapM_shift _ _ _ (fun a p=>delF_shift _ _ _ _ _) _ _)
 ·rw [rel_take _ _ _ _ (by exact ln 0x7c1041f1b11010c10001c912611102c91260100122 rfl h2 h3 hs),rel_drop _ _ _ _ (by exact ln 0x1f041f1b11011c912611002c91260100121 rfl h3 he)];simp
 ·simp;exact ln 0x7df7e10618617c1f2c99601631965112aa96511096510096219651122c912641102c912611002b41312b2191101162 rfl hs he (Nat.min_eq_left (ln 0x7c1041f1b11010c10001c912611102c91260100122 rfl h2 h3 hs)) (Nat.sub_add_cancel (ln 0x1f041f1b11011c912611002c91260100121 rfl h3 he))
theorem d_put_ordered (adv:List Bool) (S:St) {lo hi:Int} (h1:1≤lo) (h2:lo≤hi) (h3:hi≤S.text.length+1) (ys:List Int) (hy:ys.length≤8000):∃ S',S'.text.length≤S.text.length+ys.length ∧
  Does g 16 306 adv S (fun b k=>[.ref b,.int (lo+k),.int (hi+k),.lst (vints ys)]) (.inl .none) S' 8008:=by
 obtain ⟨s,hs⟩:∃ s:Nat,lo=s+1:=⟨(lo - 1).toNat,by exact ln 0x7c1841f2c912601002ca1200601111 rfl (Int.toNat_of_nonneg (ln 0x41f1ca1200021c0012101 rfl h1))⟩
 obtain ⟨e,he⟩:∃ e:Nat,hi=e+1:=⟨(hi - 1).toNat,ln 0x7c1841f2c912601002ca1200601111 rfl (Int.toNat_of_nonneg (ln 0x1041f1ca1210021c00121c1000102 rfl h1 h2))⟩
 have main:∀ S':St,(PyData.eqv (.list (((S.text.drop s).take (e - s)).map .int)) (.list (ys.map .int))=true→S'=S) →
   (PyData.eqv (.list (((S.text.drop s).take (e - s)).map .int)) (.list (ys.map .int))=false→∀ (L:Lay) (pre post:List Int) (M:Nat) (H:Hp) (Q:QV) (X:QX),L.ks.map (·.2)=adv→M+8008≤40000→Buf L pre post S M H →
    (∀ v H' M',M'≤M+8008→Buf L pre post S' M' H'→Fr L.all H H'→Q v H')→CallW g 14 142 [.ref L.b,.int (lo+pre.length),.int (hi+pre.length),.lst (vints ys)] Q X H) →
   Does g 16 306 adv S (fun b k=>[.ref b,.int (lo+k),.int (hi+k),.lst (vints ys)]) (.inl .none) S' 8008:=by
  intro S' m1 m2 L pre post M H Q X ha hM B q
  refine el_EE B.ib fun tk ck h=>?_
  refine D.put_ordered.w rfl ?_
  apply me_ h
  refine (r_codes D S (s:=s) (e:=e) (ln 0x85f041f1b01111c00102c912611102c91260100122 rfl h2 hs he) (ln 0x1f041f1b11011c912611002c91260100121 rfl h3 he) hs he L pre post M H _ _ B ?_).up (by exact Nat.le_of_ble_eq_true rfl)
  refine eqw_ints ?_
  cases hc:PyData.eqv (.list (((S.text.drop s).take (e - s)).map .int)) (.list (ys.map .int)) with
  | true=>
   have:=m1 hc
   subst this
   exact brF (q H M (ln 0x1f1b900001f4830101110 rfl) B (.refl _ _))
  | false=>
   refine brT ?_
   exact m2 hc L pre post M H _ _ ha hM B fun v H' M' hm B' F=>q H' M' hm B' F
 by_cases hc:PyData.eqv (.list (((S.text.drop s).take (e - s)).map .int)) (.list (ys.map .int))=true
 ·exact (in_EA S (ln 0x1f1b9110101120 rfl) (main S (fun u0=>rfl) fun h=>by rw [hc] at h;trivial))
 have hc:PyData.eqv (.list (((S.text.drop s).take (e - s)).map .int)) (.list (ys.map .int))=false:=by simpa using hc
 by_cases hse:s=e
 ·subst hse
  have hlh:hi=lo:=ln 0x85f05f841f2c10002c912601102c91260100112 rfl hs he
  subst hlh
  by_cases hn:ys=[]
  ·subst hn
   refine (in_EA S (by exact Nat.le_refl _) (main S (fun u0=>rfl) fun u0 L pre post M H Q X ha hM B q=>?_))
   exact c_replace_nil D B (ln 0x7c1f1c9611009611122c91260100121 rfl hs) (by exact ln 0x41f1c96019611129611001c91260100121 rfl h3) fun v=>q v H M (ln 0x1f1b900001f4830101110 rfl) B (.refl _ _)
  ·have hpos:0 < ys.length:=List.length_pos_iff.mpr hn
   refine (in_EA ⟨S.text.take s++ys++S.text.drop s,if S.pt > hi then S.pt+ys.length else S.pt,mapA (insF hi (hi+ys.length) false) adv S.ps⟩ (by simp;exact ln 0x21841f1b94121990141312b11312b2191101150 rfl (Nat.min_eq_left (ln 0x1f041f1b11011c912611002c91260100121 rfl h3 he)) (Nat.sub_add_cancel (ln 0x1f041f1b11011c912611002c91260100121 rfl h3 he))) (main _ (fun h=>by rw [hc] at h;trivial) fun u0 L pre post M H Q X ha hM B q=>?_))
   subst ha
   refine c_replace_ins D B (s:=pre.length+s) (by exact ln 0x8417c1f2c9126901119611002c91260100121 rfl hs) (by exact ln 0x7c1f1c9611009611122c91260100121 rfl hs) (by exact ln 0x41f1c96019611129611001c91260100121 rfl h3) (by simp;exact ln 0x1f041f1b92111011c912611002c91260100131 rfl h3 he) hpos (by exact ln 0x41f1b000027103011b00001f40301110 rfl hy) (by exact ln 0x1041f1b00009c403982911011b00001f403111b00009c403900001f48301120 rfl hy hM) fun v H' B' F=>q v H' (M+ys.length+8) (by exact ln 0x41f1b900001f48311982901111b00001f40301120 rfl hy) ?_ F
   refine B'.to ?_ ?_ ?_ ?_
   ·rw [rel_take _ _ _ _ (by exact ln 0x1f041f1b11011c912611002c91260100121 rfl h3 he),rel_drop _ _ _ _ (by exact ln 0x1f041f1b11011c912611002c91260100121 rfl h3 he)];simp
   ·simp;exact ln 0x7df061841f2c999601651631964112965196219641122b11312b2191101160 rfl (Nat.min_eq_left (ln 0x1f041f1b11011c912611002c91260100121 rfl h3 he)) (Nat.sub_add_cancel (ln 0x1f041f1b11011c912611002c91260100121 rfl h3 he))
   ·exact if_shift (gt_k _) (Int.add_right_comm _ _ _) rfl
   ·rw [show hi+(pre.length:Int)+(ys.length:Int)=(hi+ys.length)+pre.length by exact ln 0x41f2c96019611009611960100121 rfl]
    exact mapM_shift _ _ _ (fun a p=>insF_shift _ _ _ _ _ _) _ _
 ·by_cases hn:ys=[]
  ·subst hn
   refine (in_EA ⟨S.text.take s++S.text.drop e,outPt lo hi S.pt,mapA (delF lo hi) adv S.ps⟩ (by simp;exact ln 0x86185f041f1b21901311c00102c912641102c912611002b41312b2191101152 rfl h2 hs he (Nat.min_eq_left (ln 0x7c1041f1b11011c10001c912611102c91260100122 rfl h2 h3 hs)) (Nat.sub_add_cancel (ln 0x1f041f1b11011c912611002c91260100121 rfl h3 he))) (main _ (fun h=>by rw [hc] at h;trivial) fun u0 L pre post M H Q X ha hM B q=>?_))
   subst ha
   refine (c_replace_del D B (s:=pre.length+s) (e:=pre.length+e) (ln 0x8417c1f2c9126901119611002c91260100121 rfl hs) (ln 0x8417c1f2c9126901119611002c91260100121 rfl he) (ln 0x7c1f1c9611009611122c91260100121 rfl hs) (by exact ln 0x41f1c96019611129611001c91260100121 rfl h3) (Nat.add_lt_add_left (Nat.lt_of_le_of_ne (by exact ln 0x85f041f1b01111c00102c912611102c91260100122 rfl h2 hs he) hse) _) (by simp;exact ln 0x1f041f1b92111011c912611002c91260100131 rfl h3 he) fun v H' B' F=>q v H' M (ln 0x1f1b900001f4830101110 rfl) ?_ F).up (by exact Nat.le_of_ble_eq_true rfl)
   refine B'.to ?_ ?_ (outPt_shift _ _ _ _) (mapM_shift _ _ _ (fun a p=>delF_shift _ _ _ _ _) _ _)
   ·rw [rel_take _ _ _ _ (by exact ln 0x7c1041f1b11011c10001c912611102c91260100122 rfl h2 h3 hs),rel_drop _ _ _ _ (by exact ln 0x1f041f1b11011c912611002c91260100121 rfl h3 he)];simp
   ·simp;exact ln 0x7df7e10618617c1f2c99601631965112aa96511096510096219651122c912641102c912611002b41312b2191101162 rfl hs he (Nat.min_eq_left (ln 0x7c1041f1b11011c10001c912611102c91260100122 rfl h2 h3 hs)) (Nat.sub_add_cancel (ln 0x1f041f1b11011c912611002c91260100121 rfl h3 he))
  ·have hpos:0 < ys.length:=List.length_pos_iff.mpr hn
   refine (in_EA ⟨S.text.take s++ys++S.text.drop e,repPt lo hi ys.length S.pt,mapA (repF lo hi ys.length) adv S.ps⟩ (by simp;exact ln 0x86185f041f1b95121990151311c00102c912641102c912611002b41312b2191101162 rfl h2 hs he (Nat.min_eq_left (ln 0x7c1041f1b11011c10001c912611102c91260100122 rfl h2 h3 hs)) (Nat.sub_add_cancel (ln 0x1f041f1b11011c912611002c91260100121 rfl h3 he))) (main _ (fun h=>by rw [hc] at h;trivial) fun u0 L pre post M H Q X ha hM B q=>?_))
   subst ha
   refine (c_replace D B (s:=pre.length+s) (e:=pre.length+e) (ln 0x8417c1f2c9126901119611002c91260100121 rfl hs) (ln 0x8417c1f2c9126901119611002c91260100121 rfl he) (ln 0x7c1f1c9611009611122c91260100121 rfl hs) (by exact ln 0x41f1c96019611129611001c91260100121 rfl h3) (Nat.add_lt_add_left (Nat.lt_of_le_of_ne (by exact ln 0x85f041f1b01111c00102c912611102c91260100122 rfl h2 hs he) hse) _) (by simp;exact ln 0x1f041f1b92111011c912611002c91260100131 rfl h3 he) hpos (ln 0x41f1b000027103011b00001f40301110 rfl hy) (ln 0x1041f1b00009c403982911011b00001f403111b00009c403900001f48301120 rfl hy hM) fun v H' B' F=>q v H' (M+ys.length+8) (ln 0x41f1b900001f48311982901111b00001f40301120 rfl hy) ?_ F).up (by exact Nat.le_of_ble_eq_true rfl)
   refine B'.to ?_ ?_ (repPt_shift _ _ _ _ _) (mapM_shift _ _ _ (fun a p=>repF_shift _ _ _ _ _ _) _ _)
   ·rw [rel_take _ _ _ _ (by exact ln 0x7c1041f1b11011c10001c912611102c91260100122 rfl h2 h3 hs),rel_drop _ _ _ _ (by exact ln 0x1f041f1b11011c912611002c91260100121 rfl h3 he)];simp
   ·simp;exact ln 0x7df7e10618617c1f2c9996016616319651129661aa96511096510096219651122c912641102c912611002b41312b2191101172 rfl hs he (Nat.min_eq_left (ln 0x7c1041f1b11011c10001c912611102c91260100122 rfl h2 h3 hs)) (Nat.sub_add_cancel (ln 0x1f041f1b11011c912611002c91260100121 rfl h3 he))
end
end Mine
namespace Mine
noncomputable abbrev loOf (s e:Int):Int:=if e < s then e else s
noncomputable abbrev hiOf (s e:Int):Int:=if e > s then e else s
theorem lohi (s e:Int):loOf s e≤hiOf s e:=by
 by_cases h:e < s
 ·exact Int.le_trans (Int.le_of_eq (if_pos h)) (Int.le_trans (Int.le_of_lt h) (Int.le_of_eq (if_neg (Int.not_lt.mpr (Int.le_of_lt h))).symm))
 ·refine Int.le_trans (Int.le_of_eq (if_neg h)) ?_
  show s≤if e > s then e else s
  split
  ·exact Int.not_lt.mp h
  ·exact Int.le_refl s
noncomputable def OutOk:V ⊕ Str→Prop
 | .inl v=>v=.none∨∃ i,v=.int i
 | .inr s=>s=Str.ofString "args-out-of-range"∨s=Str.ofString "error"
noncomputable def Cmd (g:G) (n:Nat) (f:Addr) (adv:List Bool) (S:St) (args:Addr→Int→List V):Prop:=∃ o S',OutOk o∧Does g n f adv S args o S' 8008
section
variable {g:G} (D:Defs g)
include D
theorem c_need_records_none {Q:QV} {X:QX} {H:Hp} (x:X (Str.ofString "error") H):CallW g 1 327 [.none] Q X H:=by
 refine D.need_records.w rfl ?_
 refine brT ?_
 exact ⟨by exact Nat.succ_pos _,x⟩
theorem c_need_records {xs:List V} {Q:QV} {X:QX} {H:Hp} (q:Q (.lst xs) H):CallW g 1 327 [.lst xs] Q X H:=by
 refine D.need_records.w rfl ?_
 exact brF q
theorem c_need_field {nb:Int} {Q:QV} {X:QX} {H:Hp} (x:nb=0→X (Str.ofString "error") H) (q:nb≠0→Q .none H):CallW g 1 334 [.int nb] Q X H:=by
 refine D.need_field.w rfl ?_
 exact br (fun h=>⟨by exact Nat.succ_pos _,x h⟩) fun h=>q h
theorem d_sort_rows (adv:List Bool) (S:St) (hS:S.text.length≤50) (one other:Int) (rv fd:Bool):Cmd g 18 313 adv S fun b k=>[.ref b,.int (one+k),.int (other+k),.bool rv,.bool fd]:=by
 by_cases hr:loOf one other < 1∨hiOf one other > 1+(S.text.length:Int)
 ·refine (in_EEA (.inr (Str.ofString "args-out-of-range")) S (.inl rfl) (fun L pre post M H Q X ha hM B q=>?_))
  refine D.sort_rows.w rfl ?_
  exact (r_reached D S one other L pre post M H _ _ B (fun u0=>q H M (ln 0x1f1b900001f4830101110 rfl) B (.refl _ _)) fun h=>absurd hr h).up (by decide)
 ·have hlh:=lohi one other
  obtain ⟨s,hs⟩:∃ s:Nat,loOf one other=s+1:=⟨(loOf one other - 1).toNat,ln 0x7c1841f2c912601002ca1200601111 rfl (Int.toNat_of_nonneg (ln 0x41f1ca1200028c1200101 rfl ((not_or.mp hr).1)))⟩
  obtain ⟨e,he⟩:∃ e:Nat,hiOf one other=e+1:=⟨(hiOf one other - 1).toNat,ln 0x7c1841f2c912601002ca1200601111 rfl (Int.toNat_of_nonneg (ln 0x1f041f1ca1210021c10002c91260100112 rfl hlh hs))⟩
  refine el_EAA (c_row_records D ((S.text.drop s).take (e - s)) (seg_to hS (by decide)) fd) fun ps p1 p2 hp=>?_
  refine el_EA (c_put_in_order D ((S.text.drop s).take (e - s)) (seg_to hS (by decide)) p2 (Nat.le_trans p1 (seg_to hS (by decide))) rv) fun ds d1 hd=>?_
  refine el_EA (d_put_ordered D adv S (lo:=loOf one other) (hi:=hiOf one other) (ln 0x7c1f1c00122c91260100111 rfl hs) hlh (ln 0x41f1c91260100bc96011200111 rfl ((not_or.mp hr).2)) ds d1) fun S' u0 hS'=>?_
  refine (in_EEA (.inl .none) S' (.inl rfl) (fun L pre post M H Q X ha hM B q=>?_))
  refine el_EE B.ib fun tk ck h=>?_
  refine D.sort_rows.w rfl ?_
  refine (r_reached D S one other L pre post M H _ _ B (fun h=>absurd h hr) fun u0=>?_).up (by decide)
  apply me_ h
  refine (r_codes D S (s:=s) (e:=e) (ln 0x85f041f1b01111c00102c912611102c91260100122 rfl hlh hs he) (ln 0x1f041f1b1101bc961112002c91260100121 rfl ((not_or.mp hr).2) he) hs he L pre post M H _ _ B ?_).up (by decide)
  refine hp.up (by decide) _ _ _ ?_
  refine hd.up (by decide) _ _ _ ?_
  exact hS' L pre post M H _ _ ha hM B q
theorem d_sort_paragraphs (adv:List Bool) (S:St) (hS:S.text.length≤50) (one other:Int) (rv fd:Bool):Cmd g 18 320 adv S fun b k=>[.ref b,.int (one+k),.int (other+k),.bool rv,.bool fd]:=by
 by_cases hr:loOf one other < 1∨hiOf one other > 1+(S.text.length:Int)
 ·refine (in_EEA (.inr (Str.ofString "args-out-of-range")) S (.inl rfl) (fun L pre post M H Q X ha hM B q=>?_))
  refine D.sort_paragraphs.w rfl ?_
  exact (r_reached D S one other L pre post M H _ _ B (fun u0=>q H M (ln 0x1f1b900001f4830101110 rfl) B (.refl _ _)) fun h=>absurd hr h).up (by decide)
 ·have hlh:=lohi one other
  obtain ⟨s,hs⟩:∃ s:Nat,loOf one other=s+1:=⟨(loOf one other - 1).toNat,ln 0x7c1841f2c912601002ca1200601111 rfl (Int.toNat_of_nonneg (ln 0x41f1ca1200028c1200101 rfl ((not_or.mp hr).1)))⟩
  obtain ⟨e,he⟩:∃ e:Nat,hiOf one other=e+1:=⟨(hiOf one other - 1).toNat,ln 0x7c1841f2c912601002ca1200601111 rfl (Int.toNat_of_nonneg (ln 0x1f041f1ca1210021c10002c91260100112 rfl hlh hs))⟩
  refine el_EAA (c_paragraph_records D ((S.text.drop s).take (e - s)) (seg_to hS (by decide)) fd) fun ps p1 p2 hp=>?_
  refine el_EA (c_put_in_order D ((S.text.drop s).take (e - s)) (seg_to hS (by decide)) p2 (Nat.le_trans p1 (seg_to hS (by decide))) rv) fun ds d1 hd=>?_
  refine el_EA (d_put_ordered D adv S (lo:=loOf one other) (hi:=hiOf one other) (ln 0x7c1f1c00122c91260100111 rfl hs) hlh (ln 0x41f1c91260100bc96011200111 rfl ((not_or.mp hr).2)) ds d1) fun S' u0 hS'=>?_
  refine (in_EEA (.inl .none) S' (.inl rfl) (fun L pre post M H Q X ha hM B q=>?_))
  refine el_EE B.ib fun tk ck h=>?_
  refine D.sort_paragraphs.w rfl ?_
  refine (r_reached D S one other L pre post M H _ _ B (fun h=>absurd h hr) fun u0=>?_).up (by decide)
  apply me_ h
  refine (r_codes D S (s:=s) (e:=e) (ln 0x85f041f1b01111c00102c912611102c91260100122 rfl hlh hs he) (ln 0x1f041f1b1101bc961112002c91260100121 rfl ((not_or.mp hr).2) he) hs he L pre post M H _ _ B ?_).up (by decide)
  refine hp.up (by decide) _ _ _ ?_
  refine hd.up (by decide) _ _ _ ?_
  exact hS' L pre post M H _ _ ha hM B q
theorem d_sort_fields (adv:List Bool) (S:St) (hS:S.text.length≤50) (one other nb:Int) (fd:Bool):Cmd g 18 341 adv S fun b k=>[.ref b,.int (one+k),.int (other+k),.int nb,.bool fd]:=by
 by_cases hr:loOf one other < 1∨hiOf one other > 1+(S.text.length:Int)
 ·refine (in_EEA (.inr (Str.ofString "args-out-of-range")) S (.inl rfl) (fun L pre post M H Q X ha hM B q=>?_))
  refine D.sort_fields.w rfl ?_
  exact (r_reached D S one other L pre post M H _ _ B (fun u0=>q H M (ln 0x1f1b900001f4830101110 rfl) B (.refl _ _)) fun h=>absurd hr h).up (by exact Nat.succ_pos _)
 by_cases hz:nb=0
 ·refine (in_EEA (.inr (Str.ofString "error")) S (.inr rfl) (fun L pre post M H Q X ha hM B q=>?_))
  refine D.sort_fields.w rfl ?_
  refine (r_reached D S one other L pre post M H _ _ B (fun h=>absurd h hr) fun u0=>?_).up (by exact Nat.succ_pos _)
  exact (c_need_field D (fun u0=>q H M (ln 0x1f1b900001f4830101110 rfl) B (.refl _ _)) fun h=>absurd hz h).up (by exact Nat.succ_pos _)
 ·have hlh:=lohi one other
  obtain ⟨s,hs⟩:∃ s:Nat,loOf one other=s+1:=⟨(loOf one other - 1).toNat,ln 0x7c1841f2c912601002ca1200601111 rfl (Int.toNat_of_nonneg (ln 0x41f1ca1200028c1200101 rfl ((not_or.mp hr).1)))⟩
  obtain ⟨e,he⟩:∃ e:Nat,hiOf one other=e+1:=⟨(hiOf one other - 1).toNat,ln 0x7c1841f2c912601002ca1200601111 rfl (Int.toNat_of_nonneg (ln 0x1f041f1ca1210021c10002c91260100112 rfl hlh hs))⟩
  refine el_EA (c_field_records D ((S.text.drop s).take (e - s)) (seg_to hS (by exact Nat.le_refl _)) nb fd) fun v hv hp=>?_
  rcases hv with rfl | ⟨ps,p1,p2,rfl⟩
  ·refine (in_EEA (.inr (Str.ofString "error")) S (.inr rfl) (fun L pre post M H Q X ha hM B q=>?_))
   refine el_EE B.ib fun tk ck h=>?_
   refine D.sort_fields.w rfl ?_
   refine (r_reached D S one other L pre post M H _ _ B (fun h=>absurd h hr) fun u0=>?_).up (by exact Nat.succ_pos _)
   refine (c_need_field D (fun h=>absurd h hz) fun u0=>?_).up (by exact Nat.succ_pos _)
   apply me_ h
   refine (r_codes D S (s:=s) (e:=e) (ln 0x85f041f1b01111c00102c912611102c91260100122 rfl hlh hs he) (ln 0x1f041f1b1101bc961112002c91260100121 rfl ((not_or.mp hr).2) he) hs he L pre post M H _ _ B ?_).up (by exact Nat.le_of_ble_eq_true rfl)
   refine hp.up (by exact Nat.le_of_ble_eq_true rfl) _ _ _ ?_
   exact (c_need_records_none D (q H M (ln 0x1f1b900001f4830101110 rfl) B (.refl _ _))).up (by exact Nat.succ_pos _)
  ·refine el_EA (c_put_in_order D ((S.text.drop s).take (e - s)) (seg_to hS (by exact Nat.le_of_ble_eq_true rfl)) p2 (Nat.le_trans p1 (seg_to hS (by exact Nat.le_of_ble_eq_true rfl))) false) fun ds d1 hd=>?_
   refine el_EA (d_put_ordered D adv S (lo:=loOf one other) (hi:=hiOf one other) (ln 0x7c1f1c00122c91260100111 rfl hs) hlh (ln 0x41f1c91260100bc96011200111 rfl ((not_or.mp hr).2)) ds d1) fun S' u0 hS'=>?_
   refine (in_EEA (.inl .none) S' (.inl rfl) (fun L pre post M H Q X ha hM B q=>?_))
   refine el_EE B.ib fun tk ck h=>?_
   refine D.sort_fields.w rfl ?_
   refine (r_reached D S one other L pre post M H _ _ B (fun h=>absurd h hr) fun u0=>?_).up (by exact Nat.succ_pos _)
   refine (c_need_field D (fun h=>absurd h hz) fun u0=>?_).up (by exact Nat.succ_pos _)
   apply me_ h
   refine (r_codes D S (s:=s) (e:=e) (ln 0x85f041f1b01111c00102c912611102c91260100122 rfl hlh hs he) (ln 0x1f041f1b1101bc961112002c91260100121 rfl ((not_or.mp hr).2) he) hs he L pre post M H _ _ B ?_).up (by exact Nat.le_of_ble_eq_true rfl)
   refine hp.up (by exact Nat.le_of_ble_eq_true rfl) _ _ _ ?_
   refine (c_need_records D ?_).up (by exact Nat.succ_pos _)
   refine hd.up (by exact Nat.le_of_ble_eq_true rfl) _ _ _ ?_
   exact hS' L pre post M H _ _ ha hM B q
theorem d_sort_number_fields (adv:List Bool) (S:St) (hS:S.text.length≤50) (one other nb:Int):Cmd g 18 348 adv S fun b k=>[.ref b,.int (one+k),.int (other+k),.int nb]:=by
 by_cases hr:loOf one other < 1∨hiOf one other > 1+(S.text.length:Int)
 ·refine (in_EEA (.inr (Str.ofString "args-out-of-range")) S (.inl rfl) (fun L pre post M H Q X ha hM B q=>?_))
  refine D.sort_number_fields.w rfl ?_
  exact (r_reached D S one other L pre post M H _ _ B (fun u0=>q H M (ln 0x1f1b900001f4830101110 rfl) B (.refl _ _)) fun h=>absurd hr h).up (by decide)
 by_cases hz:nb=0
 ·refine (in_EEA (.inr (Str.ofString "error")) S (.inr rfl) (fun L pre post M H Q X ha hM B q=>?_))
  refine D.sort_number_fields.w rfl ?_
  refine (r_reached D S one other L pre post M H _ _ B (fun h=>absurd h hr) fun u0=>?_).up (by decide)
  exact (c_need_field D (fun u0=>q H M (ln 0x1f1b900001f4830101110 rfl) B (.refl _ _)) fun h=>absurd hz h).up (by decide)
 ·have hlh:=lohi one other
  obtain ⟨s,hs⟩:∃ s:Nat,loOf one other=s+1:=⟨(loOf one other - 1).toNat,ln 0x7c1841f2c912601002ca1200601111 rfl (Int.toNat_of_nonneg (ln 0x41f1ca1200028c1200101 rfl ((not_or.mp hr).1)))⟩
  obtain ⟨e,he⟩:∃ e:Nat,hiOf one other=e+1:=⟨(hiOf one other - 1).toNat,ln 0x7c1841f2c912601002ca1200601111 rfl (Int.toNat_of_nonneg (ln 0x1f041f1ca1210021c10002c91260100112 rfl hlh hs))⟩
  refine el_EA (c_number_records D ((S.text.drop s).take (e - s)) (seg_to hS (by decide)) nb) fun v hv hp=>?_
  rcases hv with rfl | ⟨ps,p1,p2,rfl⟩
  ·refine (in_EEA (.inr (Str.ofString "error")) S (.inr rfl) (fun L pre post M H Q X ha hM B q=>?_))
   refine el_EE B.ib fun tk ck h=>?_
   refine D.sort_number_fields.w rfl ?_
   refine (r_reached D S one other L pre post M H _ _ B (fun h=>absurd h hr) fun u0=>?_).up (by decide)
   refine (c_need_field D (fun h=>absurd h hz) fun u0=>?_).up (by decide)
   apply me_ h
   refine (r_codes D S (s:=s) (e:=e) (ln 0x85f041f1b01111c00102c912611102c91260100122 rfl hlh hs he) (ln 0x1f041f1b1101bc961112002c91260100121 rfl ((not_or.mp hr).2) he) hs he L pre post M H _ _ B ?_).up (by decide)
   refine hp.up (by decide) _ _ _ ?_
   exact (c_need_records_none D (q H M (ln 0x1f1b900001f4830101110 rfl) B (.refl _ _))).up (by decide)
  ·refine el_EA (c_put_in_order D ((S.text.drop s).take (e - s)) (seg_to hS (by decide)) p2 (Nat.le_trans p1 (seg_to hS (by decide))) false) fun ds d1 hd=>?_
   refine el_EA (d_put_ordered D adv S (lo:=loOf one other) (hi:=hiOf one other) (ln 0x7c1f1c00122c91260100111 rfl hs) hlh (ln 0x41f1c91260100bc96011200111 rfl ((not_or.mp hr).2)) ds d1) fun S' u0 hS'=>?_
   refine (in_EEA (.inl .none) S' (.inl rfl) (fun L pre post M H Q X ha hM B q=>?_))
   refine el_EE B.ib fun tk ck h=>?_
   refine D.sort_number_fields.w rfl ?_
   refine (r_reached D S one other L pre post M H _ _ B (fun h=>absurd h hr) fun u0=>?_).up (by decide)
   refine (c_need_field D (fun h=>absurd h hz) fun u0=>?_).up (by decide)
   apply me_ h
   refine (r_codes D S (s:=s) (e:=e) (ln 0x85f041f1b01111c00102c912611102c91260100122 rfl hlh hs he) (ln 0x1f041f1b1101bc961112002c91260100121 rfl ((not_or.mp hr).2) he) hs he L pre post M H _ _ B ?_).up (by decide)
   refine hp.up (by decide) _ _ _ ?_
   refine (c_need_records D ?_).up (by decide)
   refine hd.up (by decide) _ _ _ ?_
   exact hS' L pre post M H _ _ ha hM B q
theorem d_delete_double_rows (adv:List Bool) (S:St) (hS:S.text.length≤50) (one other:Int) (b1 b2:Bool):Cmd g 18 369 adv S fun b k=>[.ref b,.int (one+k),.int (other+k),.bool b1,.bool b2]:=by
 by_cases hr:loOf one other < 1∨hiOf one other > 1+(S.text.length:Int)
 ·refine (in_EEA (.inr (Str.ofString "args-out-of-range")) S (.inl rfl) (fun L pre post M H Q X ha hM B q=>?_))
  refine D.delete_double_rows.w rfl ?_
  exact (r_reached D S one other L pre post M H _ _ B (fun u0=>q H M (ln 0x1f1b900001f4830101110 rfl) B (.refl _ _)) fun h=>absurd hr h).up (by decide)
 ·have hlh:=lohi one other
  obtain ⟨s,hs⟩:∃ s:Nat,loOf one other=s+1:=⟨(loOf one other - 1).toNat,ln 0x7c1841f2c912601002ca1200601111 rfl (Int.toNat_of_nonneg (ln 0x41f1ca1200028c1200101 rfl ((not_or.mp hr).1)))⟩
  obtain ⟨e,he⟩:∃ e:Nat,hiOf one other=e+1:=⟨(hiOf one other - 1).toNat,ln 0x7c1841f2c912601002ca1200601111 rfl (Int.toNat_of_nonneg (ln 0x1f041f1ca1210021c10002c91260100112 rfl hlh hs))⟩
  refine el_EEA (c_without_doubles D ((S.text.drop s).take (e - s)) (seg_to hS (by decide)) b1 b2) fun ds m d1 hd=>?_
  refine el_EA (d_put_ordered D adv S (lo:=loOf one other) (hi:=hiOf one other) (ln 0x7c1f1c00122c91260100111 rfl hs) hlh (ln 0x41f1c91260100bc96011200111 rfl ((not_or.mp hr).2)) ds d1) fun S' u0 hS'=>?_
  refine (in_EEA (.inl (.int m)) S' (.inr ⟨_,rfl⟩) (fun L pre post M H Q X ha hM B q=>?_))
  refine el_EE B.ib fun tk ck h=>?_
  refine D.delete_double_rows.w rfl ?_
  refine (r_reached D S one other L pre post M H _ _ B (fun h=>absurd h hr) fun u0=>?_).up (by decide)
  apply me_ h
  refine (r_codes D S (s:=s) (e:=e) (ln 0x85f041f1b01111c00102c912611102c91260100122 rfl hlh hs he) (ln 0x1f041f1b1101bc961112002c91260100121 rfl ((not_or.mp hr).2) he) hs he L pre post M H _ _ B ?_).up (by decide)
  refine hd.up (by decide) _ _ _ ?_
  exact hS' L pre post M H _ _ ha hM B fun H' M' hm B' F=>q H' M' hm B' F
end
end Mine
namespace Mine
section
variable {g:G} (D:Defs g)
include D
theorem d_reverse_region (adv:List Bool) (S:St) (hS:S.text.length≤50) (one other:Int):Cmd g 18 362 adv S fun b k=>[.ref b,.int (one+k),.int (other+k)]:=by
 by_cases hr:loOf one other < 1∨hiOf one other > 1+(S.text.length:Int)
 ·refine (in_EEA (.inr (Str.ofString "args-out-of-range")) S (.inl rfl) (fun L pre post M H Q X ha hM B q=>?_))
  refine D.reverse_region.w rfl ?_
  exact (r_reached D S one other L pre post M H _ _ B (fun u0=>q H M (ln 0x1f1b900001f4830101110 rfl) B (.refl _ _)) fun h=>absurd hr h).up (by exact Nat.succ_pos _)
 have hlh:=lohi one other
 have fin:∀ low high:Int,1≤low→low≤high→high≤S.text.length+1→∃ S',∀ (L:Lay) (pre post:List Int) (M:Nat) (H:Hp) (Q:QV) (X:QX) (a1 a2:V),L.ks.map (·.2)=adv→M+8008≤40000→Buf L pre post S M H →
   (∀ H' M',M'≤M+8008→Buf L pre post S' M' H'→Fr L.all H H'→Q .none H') →
   wSs g 17 (m_reverse_region.drop 3) [some (.ref L.b),some a1,some a2,some (.int (low+pre.length)),some (.int (high+pre.length)),none,none,none,none,none,none,none,none] (fun u0 H=>Q .none H) Q X H:=by
  intro low high h1 h2 h3
  obtain ⟨s,hs⟩:∃ s:Nat,low=s+1:=⟨(low - 1).toNat,ln 0x7c1841f2c912601002ca1200601111 rfl (Int.toNat_of_nonneg (ln 0x41f1ca1200021c0012101 rfl h1))⟩
  obtain ⟨e,he⟩:∃ e:Nat,high=e+1:=⟨(high - 1).toNat,ln 0x7c1841f2c912601002ca1200601111 rfl (Int.toNat_of_nonneg (ln 0x1041f1ca1210021c00121c1000102 rfl h1 h2))⟩
  refine el_EA (c_rows_turned D ((S.text.drop s).take (e - s)) (seg_to hS (by exact Nat.le_of_ble_eq_true rfl))) fun ds d1 hd=>?_
  refine el_EA (d_put_ordered D adv S (lo:=low) (hi:=high) h1 h2 h3 ds d1) fun S' u0 hS'=>?_
  refine ⟨S',fun L pre post M H Q X a1 a2 ha hM B q=>?_⟩
  refine el_EE B.ib fun tk ck h=>?_
  apply me_ h
  refine (r_codes D S (s:=s) (e:=e) (ln 0x85f041f1b01111c00102c912611102c91260100122 rfl h2 hs he) (ln 0x1f041f1b11011c912611002c91260100121 rfl h3 he) hs he L pre post M H _ _ B ?_).up (by exact Nat.le_of_ble_eq_true rfl)
  refine hd.up (by exact Nat.le_of_ble_eq_true rfl) _ _ _ ?_
  exact hS' L pre post M H _ _ ha hM B q
 have step2:∀ low:Int,1≤low→low≤hiOf one other→∃ S',∀ (L:Lay) (pre post:List Int) (M:Nat) (H:Hp) (Q:QV) (X:QX) (a1 a2:V),L.ks.map (·.2)=adv→M+8008≤40000→Buf L pre post S M H →
   (∀ H' M',M'≤M+8008→Buf L pre post S' M' H'→Fr L.all H H'→Q .none H') →
   wSs g 17 (m_reverse_region.drop 2) [some (.ref L.b),some a1,some a2,some (.int (low+pre.length)),some (.int (hiOf one other+pre.length)),none,none,none,none,none,none,none,none] (fun u0 H=>Q .none H) Q X H:=by
  intro low h1 h2
  by_cases c1:hiOf one other < 1+(S.text.length:Int)
  ·by_cases c2:codeR S.text (hiOf one other)=10
   ·obtain ⟨S',hf⟩:=fin low (hiOf one other) h1 h2 (ln 0x41f1c912601000c96011200111 rfl c1)
    refine ⟨S',fun L pre post M H Q X a1 a2 ha hM B q=>?_⟩
    have f:=hf L pre post M H Q X a1 a2 ha hM B q
    refine el_EE B.ib fun tk ck h=>?_
    apply at_ h
    refine br (fun u0=>?_) fun h=>False.elim (ln 0x41f0c961112008c9611960112960100021 rfl c1 h)
    apply me_ h
    refine (r_code_at D S (hiOf one other) L pre post M H _ _ B ?_).up (by exact Nat.le_of_ble_eq_true rfl)
    conv=>whnf
    rw [decide_eq_true c2]
    exact brF f
   ·refine el_EAA (r_line_start D S (p:=hiOf one other) (ln 0x1041f1c10121c00121c1000102 rfl h1 h2) (ln 0x41f1c912601000c96011200111 rfl c1)) fun r r1 r2 hrr=>?_
    obtain ⟨S',hf⟩:=fin low (if low > r then low else r) h1 (le_if (fun u0=>Int.le_refl _) fun q=>Int.not_lt.mp q) (if_le (fun u0=>by exact ln 0x1041f1c912601101c00100c96011200112 rfl h2 c1) fun u0=>by exact ln 0x1041f1c912601000c960112101c1000112 rfl c1 r2)
    refine ⟨S',fun L pre post M H Q X a1 a2 ha hM B q=>?_⟩
    have f:=hf L pre post M H Q X a1 a2 ha hM B q
    refine el_EE B.ib fun tk ck h=>?_
    apply at_ h
    refine br (fun u0=>?_) fun h=>False.elim (ln 0x41f0c961112008c9611960112960100021 rfl c1 h)
    apply me_ h
    refine (r_code_at D S (hiOf one other) L pre post M H _ _ B ?_).up (by exact Nat.le_of_ble_eq_true rfl)
    conv=>whnf
    rw [decide_eq_false c2]
    refine brT ?_
    refine (hrr L pre post M H _ _ B ?_).up (by exact Nat.le_of_ble_eq_true rfl)
    rw [show (if low > r then low else r)+(pre.length:Int)=if low+(pre.length:Int) > r+(pre.length:Int) then low+(pre.length:Int) else r+(pre.length:Int) from (if_shift (gt_k _) rfl rfl).symm] at f
    exact f
  ·obtain ⟨S',hf⟩:=fin low (hiOf one other) h1 h2 (ln 0x41f1c91260100bc96011200111 rfl ((not_or.mp hr).2))
   refine ⟨S',fun L pre post M H Q X a1 a2 ha hM B q=>?_⟩
   have f:=hf L pre post M H Q X a1 a2 ha hM B q
   refine el_EE B.ib fun tk ck h=>?_
   apply at_ h
   exact br (fun h=>False.elim (ln 0x41f8c961112000c9611960112960100021 rfl c1 h)) fun u0=>brF f
 have step1:∃ S',∀ (L:Lay) (pre post:List Int) (M:Nat) (H:Hp) (Q:QV) (X:QX) (a1 a2:V),L.ks.map (·.2)=adv→M+8008≤40000→Buf L pre post S M H →
   (∀ H' M',M'≤M+8008→Buf L pre post S' M' H'→Fr L.all H H'→Q .none H') →
   wSs g 17 (m_reverse_region.drop 1) [some (.ref L.b),some a1,some a2,some (.int (loOf one other+pre.length)),some (.int (hiOf one other+pre.length)),none,none,none,none,none,none,none,none] (fun u0 H=>Q .none H) Q X H:=by
  by_cases c1:loOf one other > 1
  ·by_cases c2:codeR S.text (loOf one other - 1)=10
   ·obtain ⟨S',hf⟩:=step2 (loOf one other) (ln 0x41f1c00123c1200101 rfl c1) hlh
    refine ⟨S',fun L pre post M H Q X a1 a2 ha hM B q=>?_⟩
    have f:=hf L pre post M H Q X a1 a2 ha hM B q
    refine el_EE B.ib fun tk ck h=>?_
    apply at_ h
    refine br (fun u0=>?_) fun h=>False.elim (ln 0x41f3c1200bc960112960100011 rfl c1 h)
    apply me_ h
    conv=>whnf
    rw [show loOf one other+(pre.length:Int) - 1=loOf one other - 1+pre.length by exact ln 0x41f2c9601a1200a12960100111 rfl]
    refine (r_code_at D S (loOf one other - 1) L pre post M H _ _ B ?_).up (by exact Nat.le_of_ble_eq_true rfl)
    conv=>whnf
    rw [decide_eq_true c2]
    exact brF f
   ·refine el_EAA (r_line_end D S (p:=loOf one other) (ln 0x41f1c00123c1200101 rfl c1) (ln 0x1041f1c91260100bc960112101c1000112 rfl ((not_or.mp hr).2) hlh)) fun r r1 r2 hrr=>?_
    obtain ⟨S',hf⟩:=step2 (if hiOf one other < r+1 then hiOf one other else r+1) (le_if (fun u0=>by exact ln 0x1041f1c10128c12001c1000102 rfl ((not_or.mp hr).1) hlh) fun u0=>by exact ln 0x1041f1c91210123c12001c1000102 rfl c1 r1) (if_le (fun u0=>Int.le_refl _) fun q=>Int.not_lt.mp q)
    refine ⟨S',fun L pre post M H Q X a1 a2 ha hM B q=>?_⟩
    have f:=hf L pre post M H Q X a1 a2 ha hM B q
    refine el_EE B.ib fun tk ck h=>?_
    apply at_ h
    refine br (fun u0=>?_) fun h=>False.elim (ln 0x41f3c1200bc960112960100011 rfl c1 h)
    apply me_ h
    conv=>whnf
    rw [show loOf one other+(pre.length:Int) - 1=loOf one other - 1+pre.length by exact ln 0x41f2c9601a1200a12960100111 rfl]
    refine (r_code_at D S (loOf one other - 1) L pre post M H _ _ B ?_).up (by exact Nat.le_of_ble_eq_true rfl)
    conv=>whnf
    rw [decide_eq_false c2]
    refine brT ?_
    refine (hrr L pre post M H _ _ B ?_).up (by exact Nat.le_of_ble_eq_true rfl)
    rw [show (if hiOf one other < r+1 then hiOf one other else r+1)+(pre.length:Int)=if hiOf one other+(pre.length:Int) < r+(pre.length:Int)+1 then hiOf one other+(pre.length:Int) else r+(pre.length:Int)+1 from (if_shift ⟨fun h=>by exact ln 0x41f0c91210000c912960110960100112 rfl h,fun h=>by exact ln 0x41f0c9129601109601000c9121000112 rfl h⟩ rfl (Int.add_right_comm _ _ _)).symm] at f
    exact f
  ·obtain ⟨S',hf⟩:=step2 (loOf one other) (ln 0x41f1c00128c1200101 rfl ((not_or.mp hr).1)) hlh
   refine ⟨S',fun L pre post M H Q X a1 a2 ha hM B q=>?_⟩
   have f:=hf L pre post M H Q X a1 a2 ha hM B q
   refine el_EE B.ib fun tk ck h=>?_
   apply at_ h
   exact br (fun h=>False.elim (ln 0x41fbc12003c960112960100011 rfl c1 h)) fun u0=>brF f
 obtain ⟨S',hf⟩:=step1
 refine (in_EEA (.inl .none) S' (.inl rfl) (fun L pre post M H Q X ha hM B q=>?_))
 refine D.reverse_region.w rfl ?_
 refine (r_reached D S one other L pre post M H _ _ B (fun h=>absurd h hr) fun u0=>?_).up (by exact Nat.succ_pos _)
 exact hf L pre post M H Q X _ _ ha hM B q
set_option maxHeartbeats 2000000 in
theorem d_sort_columns (adv:List Bool) (S:St) (hS:S.text.length≤50) (one other:Int) (rv fd:Bool):Cmd g 18 355 adv S fun b k=>[.ref b,.int (one+k),.int (other+k),.bool rv,.bool fd,.int 8]:=by
 by_cases hr:loOf one other < 1∨hiOf one other > 1+(S.text.length:Int)
 ·refine (in_EEA (.inr (Str.ofString "args-out-of-range")) S (.inl rfl) (fun L pre post M H Q X ha hM B q=>?_))
  refine D.sort_columns.w rfl ?_
  exact (r_reached D S one other L pre post M H _ _ B (fun u0=>q H M (ln 0x1f1b900001f4830101110 rfl) B (.refl _ _)) fun h=>absurd hr h).up (by exact Nat.succ_pos _)
 have hlh:=lohi one other
 refine el_EAA (r_line_start D S (p:=loOf one other) (ln 0x41f1c00128c1200101 rfl ((not_or.mp hr).1)) (ln 0x1041f1c91260100bc960112101c1000112 rfl ((not_or.mp hr).2) hlh)) fun l l1 l2 hl=>?_
 refine el_EAA (r_line_end D S (p:=hiOf one other) (ln 0x41041f1c20121c20101c00121c1000103 rfl hlh l1 l2) (ln 0x41f1c91260100bc96011200111 rfl ((not_or.mp hr).2))) fun z z1 z2 hz=>?_
 obtain ⟨s,hs⟩:∃ s:Nat,l=s+1:=⟨(l - 1).toNat,ln 0x7c1841f2c912601002ca1200601111 rfl (Int.toNat_of_nonneg (ln 0x41f1ca1200021c0012101 rfl l1))⟩
 obtain ⟨e,he⟩:∃ e:Nat,z=e+1:=⟨(z - 1).toNat,ln 0x7c1841f2c912601002ca1200601111 rfl (Int.toNat_of_nonneg (ln 0x1041041f1ca1210021c00301c20121c30201c1000104 rfl hlh l1 l2 z1))⟩
 obtain ⟨lo,hlo⟩:∃ s:Nat,loOf one other=s+1:=⟨(loOf one other - 1).toNat,ln 0x7c1841f2c912601002ca1200601111 rfl (Int.toNat_of_nonneg (ln 0x1f041f1ca1210021c10002c91260100112 rfl l2 hs))⟩
 obtain ⟨hi,hhi⟩:∃ s:Nat,hiOf one other=s+1:=⟨(hiOf one other - 1).toNat,ln 0x7c1841f2c912601002ca1200601111 rfl (Int.toNat_of_nonneg (ln 0x1041f1ca1210028c12001c1000102 rfl ((not_or.mp hr).1) hlh))⟩
 by_cases h9:((((S.text.drop s).take (e - s)).map PyData.int).any fun d=>PyData.eqv d (.int 9))=true
 ·refine (in_EEA (.inr (Str.ofString "error")) S (.inr rfl) (fun L pre post M H Q X ha hM B q=>?_))
  refine el_EE B.ib fun tk ck h=>?_
  refine D.sort_columns.w rfl ?_
  refine (r_reached D S one other L pre post M H _ _ B (fun h=>absurd h hr) fun u0=>?_).up (by exact Nat.succ_pos _)
  refine (hl L pre post M H _ _ B ?_).up (by exact Nat.le_of_ble_eq_true rfl)
  refine (hz L pre post M H _ _ B ?_).up (by exact Nat.le_of_ble_eq_true rfl)
  apply me_ h
  refine (r_codes D S (s:=s) (e:=e) (ln 0x85f041041f1b01111c20301c30101c00202c912611102c91260100124 rfl hlh l2 z1 hs he) (ln 0x1f041f1b11011c912611002c91260100121 rfl z2 he) hs he L pre post M H _ _ B ?_).up (by exact Nat.le_of_ble_eq_true rfl)
  refine inw_int ?_
  rw [h9]
  refine brT ?_
  exact ⟨by exact Nat.succ_pos _,q H M (ln 0x1f1b900001f4830101110 rfl) B (.refl _ _)⟩
 ·have h9:((((S.text.drop s).take (e - s)).map PyData.int).any fun d=>PyData.eqv d (.int 9))=false:=by simpa using h9
  refine el_EAA (r_line_start D S (p:=hiOf one other) (ln 0x7c1f1c00122c91260100111 rfl hhi) (ln 0x1041f1c912601101c00101c91260100112 rfl z1 z2)) fun n n1 n2 hn=>?_
  obtain ⟨b,hb⟩:∃ s:Nat,n=s+1:=⟨(n - 1).toNat,ln 0x7c1841f2c912601002ca1200601111 rfl (Int.toNat_of_nonneg (ln 0x41f1ca1200021c0012101 rfl n1))⟩
  obtain ⟨c1,hc1⟩:=c_column_at D ((S.text.drop s).take (lo - s)) (seg_to hS (by exact Nat.le_of_ble_eq_true rfl)) (loOf one other - l)
  obtain ⟨c2,hc2⟩:=c_column_at D ((S.text.drop b).take (hi - b)) (seg_to hS (by exact Nat.le_of_ble_eq_true rfl)) (hiOf one other - n)
  refine el_EAA (c_column_records D ((S.text.drop s).take (e - s)) (seg_to hS (by exact Nat.le_of_ble_eq_true rfl)) (if (c2:Int) < c1 then c2 else c1) (if (c2:Int) > c1 then c2 else c1) fd) fun ps p1 p2 hp=>?_
  refine el_EA (c_put_in_order D ((S.text.drop s).take (e - s)) (seg_to hS (by exact Nat.le_of_ble_eq_true rfl)) p2 (Nat.le_trans p1 (seg_to hS (by exact Nat.le_of_ble_eq_true rfl))) rv) fun ds d1 hd=>?_
  refine el_EA (d_put_ordered D adv S (lo:=l) (hi:=z) l1 (ln 0x41041f1c10201c00301c30201c1000104 rfl hlh l2 z1) z2 ds d1) fun S' u0 hS'=>?_
  refine (in_EEA (.inl .none) S' (.inl rfl) (fun L pre post M H Q X ha hM B q=>?_))
  refine el_EE B.ib fun tk ck h=>?_
  refine D.sort_columns.w rfl ?_
  refine (r_reached D S one other L pre post M H _ _ B (fun h=>absurd h hr) fun u0=>?_).up (by exact Nat.succ_pos _)
  refine (hl L pre post M H _ _ B ?_).up (by exact Nat.le_of_ble_eq_true rfl)
  refine (hz L pre post M H _ _ B ?_).up (by exact Nat.le_of_ble_eq_true rfl)
  apply me_ h
  refine (r_codes D S (s:=s) (e:=e) (ln 0x85f041041f1b01111c20301c30101c00202c912611102c91260100124 rfl hlh l2 z1 hs he) (ln 0x1f041f1b11011c912611002c91260100121 rfl z2 he) hs he L pre post M H _ _ B ?_).up (by exact Nat.le_of_ble_eq_true rfl)
  refine inw_int ?_
  rw [h9]
  refine brF ?_
  apply me_ h
  refine (r_codes D S (s:=s) (e:=lo) (ln 0x85f041f1b01111c00102c912611102c91260100122 rfl l2 hs hlo) (ln 0x7c1041f1b1101bc961112101c10002c91260100122 rfl ((not_or.mp hr).2) hlh hlo) hs hlo L pre post M H _ _ B ?_).up (by exact Nat.le_of_ble_eq_true rfl)
  conv=>whnf
  rw [show loOf one other+(pre.length:Int) - (l+pre.length)=loOf one other - l by exact ln 0x41f2ca1000a960110960100112 rfl]
  refine hc1.up (by exact Nat.le_of_ble_eq_true rfl) _ _ _ ?_
  refine (hn L pre post M H _ _ B ?_).up (by exact Nat.le_of_ble_eq_true rfl)
  apply me_ h
  refine (r_codes D S (s:=b) (e:=hi) (ln 0x7c1841f1b11012c912611101c10002c91260100122 rfl hhi n2 hb) (ln 0x7c1041f1b11011c10001c912611102c91260100122 rfl z1 z2 hhi) hb hhi L pre post M H _ _ B ?_).up (by exact Nat.le_of_ble_eq_true rfl)
  conv=>whnf
  rw [show hiOf one other+(pre.length:Int) - (n+pre.length)=hiOf one other - n by exact ln 0x41f2ca1000a960110960100112 rfl]
  refine hc2.up (by exact Nat.le_of_ble_eq_true rfl) _ _ _ ?_
  refine hp.up (by exact Nat.le_of_ble_eq_true rfl) _ _ _ ?_
  refine hd.up (by exact Nat.le_of_ble_eq_true rfl) _ _ _ ?_
  exact hS' L pre post M H _ _ ha hM B q
end
end Mine
namespace Mine
noncomputable abbrev Lit (lit:Addr) (cs:List Int) (fd:Bool) (H:Hp):Prop:=H lit=some (.inst cLit [(28,.lst (vints cs)),(29,.bool fd)])
theorem range_from (a b:Int):vints (rangeL a b)=(List.range' 0 (b - a).toNat).map fun i:Nat=>V.int (a+i):=by
 unfold vints rangeL;rw [← List.range_eq_range',List.map_map];rfl
theorem rng_in {p st n b:Int} (h:p+((0:Nat):Int)≤st∧st < p+((0:Nat):Int)+(((b - n+1 - p).toNat:Nat):Int)):p≤st∧st+n≤b:=by
 obtain ⟨h1,h2⟩:=h
 rcases Int.le_total 0 (b - n+1 - p) with k | k
 ·have e:=Int.toNat_of_nonneg k
  exact ⟨by exact ln 0x41f1c10001c10960200102 rfl h1,by exact ln 0x21041f1c00910300c9601960220302ca20912a1000601114 rfl h2 (Int.toNat_of_nonneg k)⟩
 ·rw [Int.toNat_of_nonpos k] at h2;exact absurd h2 (Int.not_lt.mpr (show p+((0:Nat):Int)+((0:Nat):Int)≤st by exact ln 0x41f1c1096029602001c10960200102 rfl h1))
section
variable {g:G} (D:Defs g)
include D
theorem c_fold (c:Int):Det g 3 184 [.int c] (.int (downR c)):=by
 intro Q X H q
 refine D.fold.w rfl ?_
 exact (c_downcase D c).up (by exact Nat.le_refl _) _ _ _ q
theorem fits_loop (S:St) (p:Int) (cs:List Int) (fd:Bool):∀ (n s:Nat),s+n=cs.length→∃ r:Bool,∀ (L:Lay) (pre post:List Int) (M:Nat) (H:Hp) (lit:Addr) (R:QV) (N:QN) (o3 o4:Option V),Buf L pre post S M H→Lit lit cs fd H →
  (r=false→R (.bool false) H)→(r=true→∀ o3 o4,N [some (.ref lit),some (.ref L.b),some (.int (p+pre.length)),o3,o4,none,none,none] H) →
  loopW (RB g 6 3 (bodyOf m_Literal_fits 0) R) (vr s n) [some (.ref lit),some (.ref L.b),some (.int (p+pre.length)),o3,o4,none,none,none] N H:=by
 intro n
 induction n with
 | zero=>exact fun s hs=>⟨true,fun L pre post M H lit R N o3 o4 B hl q1 q2=>q2 rfl _ _⟩
 | succ n ih=>
  intro s hs
  obtain ⟨c,hc⟩:=get_int (cs:=cs) (k:=s) (by exact ln 0x841f0b21012b2199121101130 rfl hs)
  obtain ⟨r,hr⟩:=ih (s+1) (ln 0x8417c1f2b21911912012b2199121101130 rfl hs)
  by_cases e1:codeR S.text (p+s)=c
  ·refine ⟨r,fun L pre post M H lit R N o3 o4 B hl q1 q2=>?_⟩
   have h:=hr L pre post M H lit R N (some (.int s)) (some (.int (codeR S.text (p+s)))) B hl q1 q2
   refine el_EE B.ib fun tk ck hb=>?_
   rw [vr_succ]
   apply me_ hb
   conv=>whnf
   rw [show p+(pre.length:Int)+(s:Int)=p+s+pre.length from Int.add_right_comm _ _ _]
   refine (r_code_at D S (p+s) L pre post M H _ _ B ?_).up (by decide)
   apply at_ hl
   refine ix (vints_get hc) ?_
   conv=>whnf
   rw [decide_eq_true e1]
   exact brF (brF h)
  ·by_cases e2:fd=true∧downR (codeR S.text (p+s))=downR c
   ·refine ⟨r,fun L pre post M H lit R N o3 o4 B hl q1 q2=>?_⟩
    have h:=hr L pre post M H lit R N (some (.int s)) (some (.int (codeR S.text (p+s)))) B hl q1 q2
    refine el_EE B.ib fun tk ck hb=>?_
    rw [vr_succ]
    apply me_ hb
    conv=>whnf
    rw [show p+(pre.length:Int)+(s:Int)=p+s+pre.length by exact ln 0x41f2c96019611009611960100121 rfl]
    refine (r_code_at D S (p+s) L pre post M H _ _ B ?_).up (by decide)
    apply at_ hl
    refine ix (vints_get hc) ?_
    conv=>whnf
    rw [decide_eq_false e1]
    refine brT ?_
    apply at_ hl
    conv=>whnf
    rw [e2.1]
    refine brT ?_
    refine (c_fold D _).up (by decide) _ _ _ ?_
    apply at_ hl
    refine ix (vints_get hc) ?_
    refine (c_fold D _).up (by decide) _ _ _ ?_
    conv=>whnf
    rw [decide_eq_true e2.2]
    exact brF h
   ·refine ⟨false,fun L pre post M H lit R N o3 o4 B hl q1 q2=>?_⟩
    refine el_EE B.ib fun tk ck hb=>?_
    rw [vr_succ]
    apply me_ hb
    conv=>whnf
    rw [show p+(pre.length:Int)+(s:Int)=p+s+pre.length by exact ln 0x41f2c96019611009611960100121 rfl]
    refine (r_code_at D S (p+s) L pre post M H _ _ B ?_).up (by decide)
    apply at_ hl
    refine ix (vints_get hc) ?_
    conv=>whnf
    rw [decide_eq_false e1]
    refine brT ?_
    apply at_ hl
    refine brb (fun hf=>?_) fun hf=>brT (q1 rfl)
    refine (c_fold D _).up (by decide) _ _ _ ?_
    apply at_ hl
    refine ix (vints_get hc) ?_
    refine (c_fold D _).up (by decide) _ _ _ ?_
    conv=>whnf
    rw [decide_eq_false fun h=>e2 ⟨hf,h⟩]
    exact brT (q1 rfl)
theorem c_fits (S:St) (p:Int) (cs:List Int) (hcs:cs.length≤100) (fd:Bool):∃ r:Bool,∀ (L:Lay) (pre post:List Int) (M:Nat) (H:Hp) (lit:Addr) (Q:QV) (X:QX),Buf L pre post S M H→Lit lit cs fd H→Q (.bool r) H →
  CallW g 8 730 [.ref lit,.ref L.b,.int (p+pre.length)] Q X H:=by
 obtain ⟨r,h⟩:=fits_loop D S p cs fd cs.length 0 (ln 0x41f2b0190102110 rfl)
 refine ⟨r,fun L pre post M H lit Q X B hl q=>?_⟩
 refine D.Literal_fits.w rfl ?_
 apply at_ hl
 conv=>whnf
 rw [vints_len,vr_of]
 refine ⟨by decide,ln 0x21041f0b3c4011b000000643112c611601120 rfl hcs (Int.natAbs_of_nonneg (ln 0x1f1c60102110 rfl)),?_⟩
 refine h L pre post M H lit _ _ _ _ B hl (fun e=>by rw [e] at q;exact q) fun e o3 o4=>?_
 rw [e] at q
 exact q
noncomputable def hitV (cs:List Int) (k:Int):Option Int→V
 | some s=>.tup [.int (s+k),.int (s+k+cs.length)]
 | none=>.none
theorem next_loop (S:St) (p:Int) (cs:List Int) (hcs:cs.length≤100) (fd:Bool):∀ (n s:Nat),∃ r:Option Int,(∀ st,r=some st→p+s≤st∧st < p+s+n)∧∀ (L:Lay) (pre post:List Int) (M:Nat) (H:Hp) (lit:Addr) (R:QV) (N:QN) (a2 a3:V) (o4:Option V),Buf L pre post S M H→Lit lit cs fd H →
  (∀ st,r=some st→R (.tup [.int (st+pre.length),.int (st+pre.length+cs.length)]) H)→(r=none→∀ o4,N [some (.ref lit),some (.ref L.b),some a2,some a3,o4,none,none] H) →
  loopW (RB g 9 4 (bodyOf m_Literal_next 0) R) ((List.range' s n).map fun i:Nat=>V.int (p+pre.length+i)) [some (.ref lit),some (.ref L.b),some a2,some a3,o4,none,none] N H:=by
 intro n
 induction n with
 | zero=>exact fun s=>(in_EA none (fun st h=>(nomatch h)) (fun L pre post M H lit R N a2 a3 o4 B hl q1 q2=>q2 rfl _))
 | succ n ih=>
  intro s
  obtain ⟨b,hb⟩:=c_fits D S (p+s) cs hcs fd
  cases b with
  | true=>
   refine (in_EA (some (p+s)) (fun st h=>by cases h;exact ⟨ln 0x1f1c960100960100111 rfl,ln 0x1f0c9691211960100960100121 rfl⟩) (fun L pre post M H lit R N a2 a3 o4 B hl q1 q2=>?_))
   rw [List.range'_succ,List.map_cons]
   apply me_ hl
   conv=>whnf
   rw [show p+(pre.length:Int)+(s:Int)=p+s+pre.length by exact ln 0x41f2c96019611009611960100121 rfl]
   refine (hb L pre post M H lit _ _ B hl ?_).up (by exact Nat.le_refl _)
   refine brT ?_
   apply at_ hl
   conv=>whnf
   rw [vints_len]
   exact ⟨by exact Nat.le_of_ble_eq_true rfl,q1 _ rfl⟩
  | false=>
   refine el_EA (ih (s+1)) fun r hr1 hr=>?_
   refine (in_EA r (fun st h=>by have:=hr1 st h;exact ⟨ln 0x41f1c109601001c10969120100112 rfl this.1,ln 0x41f0c9691211960110000c961196912011000122 rfl this.2⟩) (fun L pre post M H lit R N a2 a3 o4 B hl q1 q2=>?_))
   have h:=hr L pre post M H lit R N a2 a3 (some (.int (p+s+pre.length))) B hl q1 q2
   rw [List.range'_succ,List.map_cons]
   apply me_ hl
   conv=>whnf
   rw [show p+(pre.length:Int)+(s:Int)=p+s+pre.length by exact ln 0x41f2c96019611009611960100121 rfl]
   refine (hb L pre post M H lit _ _ B hl ?_).up (by exact Nat.le_refl _)
   exact brF h
theorem c_next (S:St) (p bd:Int) (hp:0≤p∧p≤1000000) (hbd:0≤bd∧bd≤1000000) (cs:List Int) (hcs:cs.length≤100) (fd:Bool):∃ r:Option Int,(∀ st,r=some st→p≤st∧st+cs.length≤bd)∧∀ (L:Lay) (pre post:List Int) (M:Nat) (H:Hp) (lit:Addr) (Q:QV) (X:QX),Buf L pre post S M H→Lit lit cs fd H →
  Q (hitV cs pre.length r) H→CallW g 11 737 [.ref lit,.ref L.b,.int (p+pre.length),.int (bd+pre.length)] Q X H:=by
 refine el_EA (next_loop D S p cs hcs fd (bd - cs.length+1 - p).toNat 0) fun r hr1 h=>?_
 refine (in_EA r (fun st e=>rng_in (hr1 st e)) (fun L pre post M H lit Q X B hl q=>?_))
 refine D.Literal_next.w rfl ?_
 apply at_ hl
 conv=>whnf
 rw [vints_len,range_from]
 have:=B.le
 simp only [List.length_append] at this
 refine (in_AA (by exact ln 0x841041f0b3c4011c000f42403001b00009c403931921112c961100601141 rfl hp.2 this (Int.natAbs_of_nonneg (ln 0x41f1c960100021c0002111 rfl hp.1))) (Nat.lt_of_le_of_lt (nabs (N:=2000000) (by exact ln 0x1041f1c912a60196110056001e848031c00021b00000064301121 rfl hbd.1 hcs) (by exact ln 0x1041f1c6001e84803912a6319601001c000f42403001b00009c40392191101141 rfl hbd.2 this)) (by decide)) ?_)
 rw [show bd+(pre.length:Int) - (cs.length:Int)+1 - (p+pre.length)=bd - cs.length+1 - p by exact ln 0x41f2ca10912a61100a960110912a611960100122 rfl]
 refine h L pre post M H lit _ _ _ _ _ B hl (fun st e=>by rw [e] at q;exact q) fun e o4=>?_
 rw [e] at q
 exact q
end
end Mine
namespace Mine
section
variable {g:G} (D:Defs g)
include D
theorem how_loop (S:St) (lo hi:Int) (hhi:0≤hi∧hi≤1000000) (cs:List Int) (h1:1≤cs.length) (hcs:cs.length≤100) (fd:Bool):∀ (d:Nat) (r:Option Int) (many:Nat),(∀ st,r=some st→1≤st∧st+cs.length≤hi∧(hi - st).toNat≤d)→∃ many':Nat,∀ (L:Lay) (pre post:List Int) (M:Nat) (H:Hp) (lit:Addr) (R:QV) (N P:QN) (a2 a3:V) (o8:Option V),Buf L pre post S M H→Lit lit cs fd H →
  (∀ m H,WB g 12 (condOf m_how_many 3) (bodyOf m_how_many 3) R N P m H→P m H)→(∀ o8:Option V,N [some (.ref L.b),some (.ref lit),some a2,some a3,some (.int (lo+pre.length)),some (.int (hi+pre.length)),some (.int many'),some .none,o8,none] H) →
  P [some (.ref L.b),some (.ref lit),some a2,some a3,some (.int (lo+pre.length)),some (.int (hi+pre.length)),some (.int many),some (hitV cs pre.length r),o8,none] H:=by
 intro d
 induction d with
 | zero=>
  intro r many hr
  cases r with
  | none=>
   refine ⟨many,fun L pre post M H lit R N P a2 a3 o8 B hl hP q=>hP _ _ ?_⟩
   exact brF (q _)
  | some st=>have:=hr st rfl;exact False.elim (ln 0x7c1041f1b11121c009611101b02012ca1000601022 rfl h1 this.2.1 this.2.2 (Int.toNat_of_nonneg (ln 0x41f1ca0010021c10960100112 rfl this.2.1)))
 | succ d ih=>
  intro r many hr
  cases r with
  | none=>
   refine ⟨many,fun L pre post M H lit R N P a2 a3 o8 B hl hP q=>hP _ _ ?_⟩
   exact brF (q _)
  | some st=>
   refine el_AA (hr st rfl) fun k1 k2 k3=>?_
   refine el_EA (c_next D S (st+cs.length) hi ⟨ln 0x41f1c960100021c0012111 rfl k1,ln 0x1041f1c000f424039601001c000f42403101c10960100112 rfl hhi.2 k2⟩ hhi cs hcs fd) fun r' r1 hn=>?_
   obtain ⟨many',h⟩:=ih r' (many+1) fun st' e=>by have:=r1 st' e;exact ⟨ln 0x1041f1c10121c00121c10960100112 rfl k1 this.1,⟨this.2,ln 0x85f041041f1b31011b21121b91231111c109621202ca20006112ca1000601143 rfl h1 k3 this.1 (Int.toNat_of_nonneg (ln 0x41f1ca0010021c10960100112 rfl k2)) (Int.toNat_of_nonneg (ln 0x41f1ca0010021c10960100112 rfl this.2))⟩⟩
   refine ⟨many',fun L pre post M H lit R N P a2 a3 o8 B hl hP q=>hP _ _ ?_⟩
   have f:=h L pre post M H lit R N P a2 a3 (some (.int (st+cs.length+pre.length))) B hl hP q
   refine brT ?_
   refine ix (k:=0) rfl ?_
   refine ix (k:=1) rfl ?_
   refine br (fun h=>False.elim (ln 0x7c1f1b11122c9611960100960100021 rfl h1 h)) fun u0=>?_
   refine ix (k:=1) rfl ?_
   refine br (fun u0=>?_) fun h=>False.elim (ln 0x41f1c109611009c9601109611960100022 rfl k2 h)
   apply me_ hl
   conv=>whnf
   rw [show st+(pre.length:Int)+(cs.length:Int)=st+cs.length+pre.length by exact ln 0x41f2c96019611009611960100121 rfl]
   refine (hn L pre post M H lit _ _ B hl ?_).up (by exact Nat.le_refl _)
   exact f
theorem d_how_many (S:St) (hS:S.text.length≤50) (one other:Int) (cs:List Int) (h1:1≤cs.length) (hcs:cs.length≤100) (fd:Bool):∃ o:V ⊕ Str,OutOk o∧∀ (L:Lay) (pre post:List Int) (M:Nat) (H:Hp) (lit:Addr) (Q:QV) (X:QX),Buf L pre post S M H→Lit lit cs fd H →
  (match o with | .inl v=>Q v H | .inr s=>X s H)→CallW g 14 772 [.ref L.b,.ref lit,.int (one+pre.length),.int (other+pre.length)] Q X H:=by
 by_cases hr:loOf one other < 1∨hiOf one other > 1+(S.text.length:Int)
 ·refine (in_EA (.inr (Str.ofString "args-out-of-range")) (.inl rfl) (fun L pre post M H lit Q X B hl q=>?_))
  refine D.how_many.w rfl ?_
  exact (r_reached D S one other L pre post M H _ _ B (fun u0=>q) fun h=>absurd hr h).up (by exact Nat.succ_pos _)
 have hlh:=lohi one other
 refine el_EA (c_next D S (loOf one other) (hiOf one other) ⟨ln 0x41f1c00028c1200101 rfl ((not_or.mp hr).1),ln 0x41041f1c000f42403001b00000032301bc960112101c1000112 rfl hS ((not_or.mp hr).2) hlh⟩ ⟨ln 0x1041f1c10028c12001c1000102 rfl ((not_or.mp hr).1) hlh,ln 0x1041f1c000f42403001b00000032301bc96011200111 rfl hS ((not_or.mp hr).2)⟩ cs hcs fd) fun r r1 hn=>?_
 obtain ⟨many,h⟩:=how_loop D S (loOf one other) (hiOf one other) ⟨ln 0x1041f1c10028c12001c1000102 rfl ((not_or.mp hr).1) hlh,ln 0x1041f1c000f42403001b00000032301bc96011200111 rfl hS ((not_or.mp hr).2)⟩ cs h1 hcs fd (hiOf one other).toNat r 0 fun st e=>by have:=r1 st e;exact ⟨ln 0x1041f1c10128c12001c1000102 rfl ((not_or.mp hr).1) this.1,⟨this.2,ln 0x1f841041f1b01118c12201c10202ca10006112c00601123 rfl ((not_or.mp hr).1) this.1 (Int.toNat_of_nonneg (ln 0x41f1ca0010021c10960100112 rfl this.2)) (Int.toNat_of_nonneg (ln 0x41041f1c10028c12201c00201c10960100113 rfl ((not_or.mp hr).1) this.1 this.2))⟩⟩
 refine (in_EA (.inl (.int many)) (.inr ⟨_,rfl⟩) (fun L pre post M H lit Q X B hl q=>?_))
 refine D.how_many.w rfl ?_
 refine (r_reached D S one other L pre post M H _ _ B (fun h=>absurd h hr) fun u0=>?_).up (by exact Nat.succ_pos _)
 apply me_ hl
 refine (hn L pre post M H lit _ _ B hl ?_).up (by exact Nat.le_succ _)
 refine ⟨fun P hP=>?_⟩
 exact h L pre post M H lit _ _ P _ _ _ B hl hP fun o8=>q
theorem c_row_matches (S:St) (hS:S.text.length≤60) (p q:Int) (hp:0≤p∧p≤1000) (cs:List Int) (hcs:cs.length≤100) (fd:Bool):∃ b:Bool,∀ (L:Lay) (pre post:List Int) (M:Nat) (H:Hp) (lit:Addr) (Q:QV) (X:QX),Buf L pre post S M H→Lit lit cs fd H →
  Q (.bool b) H→CallW g 13 779 [.ref L.b,.ref lit,.int (p+pre.length),.int (q+pre.length)] Q X H:=by
 refine el_EA (c_next D S p (1+S.text.length) (by exact ⟨hp.1,ln 0x41f1c000f42403001c000003e8300101 rfl hp.2⟩) ⟨ln 0x1f1c96011202110 rfl,ln 0x41f1c000f424039601121b0000003c301110 rfl hS⟩ cs hcs fd) fun r r1 hn=>?_
 have start:∀ (L:Lay) (pre post:List Int) (M:Nat) (H:Hp) (lit:Addr) (Q:QV) (X:QX),Buf L pre post S M H→Lit lit cs fd H →
   wSs g 12 (m_row_matches.drop 1) [some (.ref L.b),some (.ref lit),some (.int (p+pre.length)),some (.int (q+pre.length)),some (hitV cs pre.length r)] (fun u0 H=>Q .none H) Q X H →
   CallW g 13 779 [.ref L.b,.ref lit,.int (p+pre.length),.int (q+pre.length)] Q X H:=by
  intro L pre post M H lit Q X B hl w
  refine el_EE B.ib fun tk ck hb=>?_
  refine D.row_matches.w rfl ?_
  apply me_ hl
  apply at_ hb
  conv=>whnf
  rw [show 1+(pre.length:Int)+(S.text.length:Int)=1+S.text.length+pre.length by exact ln 0x41f2c96019611129611960112120 rfl]
  exact (hn L pre post M H lit _ _ B hl w).up (by decide)
 cases r with
 | none=>
  refine ⟨false,fun L pre post M H lit Q X B hl k=>start L pre post M H lit Q X B hl ?_⟩
  exact brF k
 | some st=>
  refine ⟨decide (st < q∨st=p),fun L pre post M H lit Q X B hl k=>start L pre post M H lit Q X B hl ?_⟩
  refine brT ?_
  refine ix (k:=0) rfl ?_
  refine br (fun h=>?_) fun h=>?_
  ·rw [show decide (st < q∨st=p)=true by simp;exact .inl (ln 0x41f0c10000c960110960100112 rfl h)] at k;exact k
  ·conv=>whnf
   refine ix (k:=0) rfl ?_
   have:decide (st < q∨st=p)=decide (st+(pre.length:Int)=p+pre.length):=by
    by_cases e:st=p
    ·rw [decide_eq_true (.inr e),decide_eq_true (by exact ln 0x8417c1f2c9601109601002c1000112 rfl e)]
    ·rw [decide_eq_false (fun u=>u.elim (fun v=>h (Int.add_lt_add_right v _)) e),decide_eq_false fun u=>e (addc u)]
   rw [this] at k
   exact k
theorem eqw_bool {a b:Bool} {k:Bool→Prop} (h:k (a==b)):EqW (.bool a) (.bool b) k:=
 ⟨_,_,rfl,rfl,rfl,rfl,by simpa [PyData.eqv] using h⟩
noncomputable abbrev RBL (L:Lay) (lit:Addr) (a2 a3:V) (kept:Bool) (a5 a6:V) (at_ left many:Int) (o10 o11:Option V):Loc:=
 [some (.ref L.b),some (.ref lit),some a2,some a3,some (.bool kept),some a5,some a6,some (.int at_),some (.int left),some (.int many),o10,o11,none,none,none,none,none,none]
theorem rows_by_loop (adv:List Bool) (left:Int) (h0:0≤left) (kept:Bool) (cs:List Int) (hcs:cs.length≤100) (fd:Bool):∀ (d:Nat) (S:St) (at_:Int) (many:Nat),S.text.length≤60→1≤at_→((S.text.length:Int)+1 - left - at_).toNat≤d →
  ∃ (S':St) (many':Nat),∀ (L:Lay) (pre post:List Int) (M:Nat) (H:Hp) (lit:Addr) (R:QV) (N P:QN) (a2 a3 a5 a6:V) (o10 o11:Option V),L.ks.map (·.2)=adv→lit∉L.all→Buf L pre post S M H→Lit lit cs fd H →
   (∀ m H,WB g 15 (condOf m_rows_by 4) (bodyOf m_rows_by 4) R N P m H→P m H) →
   (∀ H',Buf L pre post S' M H'→Fr L.all H H'→R (.int many') H'∧∀ at' o10 o11,N (RBL L lit a2 a3 kept a5 a6 at' left many' o10 o11) H') →
   P (RBL L lit a2 a3 kept a5 a6 (at_+pre.length) left many o10 o11) H:=by
 intro d
 induction d with
 | zero=>
  intro S at_ many hS ha hd
  refine (in_EE S many (fun L pre post M H lit R N P a2 a3 a5 a6 o10 o11 hadv hlt B hl hP q=>hP _ _ ?_))
  refine el_EE B.ib fun tk ck hb=>?_
  refine ⟨_,_,hb,rfl,_,rfl,?_⟩
  exact br (fun h=>False.elim (ln 0x1f041f1b02010ca0096119621129621102ca10a00912611601032 rfl hd h (Int.toNat_of_nonneg (ln 0x41f1ca00a10912611020ca109611960112960100122 rfl h)))) fun u0=>(q H B (.refl _ _)).2 _ _ _
 | succ d ih=>
  intro S at_ many hS ha hd
  by_cases hlt0:at_ < (S.text.length:Int)+1 - left
  ·refine el_EAA (r_line_end D S (p:=at_) ha (ln 0x1041f1c912601001c10020ca1091260100112 rfl h0 hlt0)) fun stop s1 s2 hst=>?_
   obtain ⟨aft,haft⟩:∃ aft:Int,aft=(if (1+(S.text.length:Int)) < stop+1 then (1+(S.text.length:Int)) else stop+1):=⟨_,rfl⟩
   have ha2:at_ < aft:=haft▸lt_if (fun u0=>by exact ln 0x1041f0c960112001c10020ca1091260100112 rfl h0 hlt0) fun u0=>by exact ln 0x41f0c91210001c1000102 rfl s1
   have ha3:aft≤S.text.length+1:=haft▸if_le (fun u0=>by exact ln 0x1f1c912601960112110 rfl) fun u=>by exact ln 0x41f1c912601912008c91200960112111 rfl u
   -- up to the first question
   have start:∀ (L:Lay) (pre post:List Int) (M:Nat) (H:Hp) (lit:Addr) (R:QV) (N P:QN) (a2 a3 a5 a6:V) (o10 o11:Option V),Buf L pre post S M H→(∀ m H,WB g 15 (condOf m_rows_by 4) (bodyOf m_rows_by 4) R N P m H→P m H) →
     wSs g 15 ((bodyOf m_rows_by 4).drop 2) (RBL L lit a2 a3 kept a5 a6 (at_+pre.length) left many (some (.int (stop+pre.length))) (some (.int (aft+pre.length)))) P R (fun u0 u0=>False) H →
     P (RBL L lit a2 a3 kept a5 a6 (at_+pre.length) left many o10 o11) H:=by
    intro L pre post M H lit R N P a2 a3 a5 a6 o10 o11 B hP w
    refine hP _ _ ?_
    refine el_EE B.ib fun tk ck hb=>?_
    refine ⟨_,_,hb,rfl,_,rfl,?_⟩
    refine br (fun u0=>?_) fun h=>False.elim (ln 0x41f0ca10912611008ca109611960112960100022 rfl hlt0 h)
    refine (hst L pre post M H _ _ B ?_).up (by exact Nat.le_of_ble_eq_true rfl)
    refine ⟨_,_,hb,rfl,_,rfl,?_⟩
    rw [show aft+(pre.length:Int)=if 1+(pre.length:Int)+(S.text.length:Int) < stop+(pre.length:Int)+1 then 1+(pre.length:Int)+(S.text.length:Int) else stop+(pre.length:Int)+1 by rw [haft];exact (if_shift ⟨fun h=>by exact ln 0x41f0c912009611120c9129601009611960112121 rfl h,fun h=>by exact ln 0x41f0c91296110096019611120c91200960112121 rfl h⟩ (by exact ln 0x41f2c96019611129611960112120 rfl) (by exact ln 0x41f2c960191200912960100111 rfl)).symm] at w
    exact w
   by_cases hgo:aft > (S.text.length:Int)+1 - left
   ·refine (in_EE S many (fun L pre post M H lit R N P a2 a3 a5 a6 o10 o11 hadv hlt B hl hP q=>start L pre post M H lit R N P a2 a3 a5 a6 o10 o11 B hP ?_))
    refine el_EE B.ib fun tk ck hb=>?_
    refine ⟨_,_,hb,rfl,_,rfl,?_⟩
    exact br (fun u0=>(q H B (.refl _ _)).1) fun h=>False.elim (ln 0x41f3ca1091261100bca109611960112960100022 rfl hgo h)
   ·obtain ⟨b,hm⟩:=c_row_matches D S hS at_ stop ⟨ln 0x41f1c00021c0012101 rfl ha,ln 0x41041f1c000003e83001c10021b0000003c3010ca1091260100112 rfl h0 hS hlt0⟩ cs hcs fd
    by_cases hk:b=kept
    ·refine el_EE (ih S aft many hS (ln 0x1041f1c10121c00120c1000102 rfl ha ha2) (ln 0x217c1041f1b31011b91231210c10202ca20a009126116212ca10a00912611601143 rfl hd ha2 (Int.toNat_of_nonneg (ln 0x1041f1ca20a10912601020c0020bca1091260100113 rfl ha2 hgo)) (Int.toNat_of_nonneg (ln 0x41f1ca00a1091260102bca1091260100112 rfl hgo)))) fun S' many' h=>?_
     refine (in_EE S' many' (fun L pre post M H lit R N P a2 a3 a5 a6 o10 o11 hadv hlt B hl hP q=>start L pre post M H lit R N P a2 a3 a5 a6 o10 o11 B hP ?_))
     have f:=h L pre post M H lit R N P a2 a3 a5 a6 (some (.int (stop+pre.length))) (some (.int (aft+pre.length))) hadv hlt B hl hP q
     refine el_EE B.ib fun tk ck hb=>?_
     refine ⟨_,_,hb,rfl,_,rfl,?_⟩
     refine br (fun h=>False.elim (ln 0x41fbca10912611003ca109611960112960100022 rfl hgo h)) fun u0=>?_
     refine (hm L pre post M H lit _ _ B hl ?_).up (by exact Nat.le_succ _)
     refine eqw_bool D ?_
     rw [hk,beq_self_eq_true]
     exact brT f
    ·refine el_EA (d_delete D adv S (lo:=at_) (hi:=aft) ha ha2 ha3) fun S1 e1 hdel=>?_
     refine el_EE (ih S1 at_ (many+1) (ln 0x21041f1b0000003c3011b0000003c3212b2191101130 rfl hS e1) ha (ln 0x217df841041f1b51011b91251310c20102b41921112ca10a009126416312ca10206212ca10a00912611601163 rfl hd ha2 e1 (Int.toNat_of_nonneg (ln 0x1041f1ca20a10912601020c0020bca1091260100113 rfl ha2 hgo)) (Int.toNat_of_nonneg (ln 0x41f1ca0010020c1000102 rfl ha2)) (Int.toNat_of_nonneg (ln 0x85f041f1ca10a2091261102bca20912621002b21901112ca1000601133 rfl hgo e1 (Int.toNat_of_nonneg (ln 0x41f1ca0010020c1000102 rfl ha2)))))) fun S' many' h=>?_
     refine (in_EE S' many' (fun L pre post M H lit R N P a2 a3 a5 a6 o10 o11 hadv hlt B hl hP q=>start L pre post M H lit R N P a2 a3 a5 a6 o10 o11 B hP ?_))
     refine el_EE B.ib fun tk ck hb=>?_
     refine ⟨_,_,hb,rfl,_,rfl,?_⟩
     refine br (fun h=>False.elim (ln 0x41fbca10912611003ca109611960112960100022 rfl hgo h)) fun u0=>?_
     refine (hm L pre post M H lit _ _ B hl ?_).up (by exact Nat.le_succ _)
     refine eqw_bool D ?_
     rw [beq_false_of_ne hk]
     refine brF ?_
     refine (hdel L pre post M H _ _ hadv B fun v H' B' F=>?_).up (by exact Nat.le_of_ble_eq_true rfl)
     exact h L pre post M H' lit R N P a2 a3 a5 a6 (some (.int (stop+pre.length))) (some (.int (aft+pre.length))) hadv hlt B' (by show H' lit=_;rw [F lit hlt];exact hl) hP fun H2 B2 F2=>q H2 B2 (F.trans F2)
  ·refine (in_EE S many (fun L pre post M H lit R N P a2 a3 a5 a6 o10 o11 hadv hlt B hl hP q=>hP _ _ ?_))
   refine el_EE B.ib fun tk ck hb=>?_
   refine ⟨_,_,hb,rfl,_,rfl,?_⟩
   exact br (fun h=>False.elim (ln 0x41f8ca10912611000ca109611960112960100022 rfl hlt0 h)) fun u0=>(q H B (.refl _ _)).2 _ _ _
end
end Mine
namespace Mine
section
variable {g:G} (D:Defs g)
include D
noncomputable def CmdL (g:G) (n:Nat) (f:Addr) (adv:List Bool) (S:St) (cs:List Int) (fd:Bool) (args:Addr→Addr→Int→List V):Prop:=∃ (o:V ⊕ Str) (S':St),OutOk o∧∀ (L:Lay) (pre post:List Int) (M:Nat) (H:Hp) (lit:Addr) (Q:QV) (X:QX),
 L.ks.map (·.2)=adv→lit∉L.all→Buf L pre post S M H→Lit lit cs fd H→(∀ H',Buf L pre post S' M H'→Fr L.all H H'→match o with | .inl v=>Q v H' | .inr s=>X s H')→CallW g n f (args L.b lit pre.length) Q X H
theorem d_rows_by (adv:List Bool) (S:St) (hS:S.text.length≤50) (one other:Int) (cs:List Int) (hcs:cs.length≤100) (fd kept:Bool):CmdL g 17 786 adv S cs fd fun b lit k=>[.ref b,.ref lit,.int (one+k),.int (other+k),.bool kept]:=by
 by_cases hr:loOf one other < 1∨hiOf one other > 1+(S.text.length:Int)
 ·refine (in_EEA (.inr (Str.ofString "args-out-of-range")) S (.inl rfl) (fun L pre post M H lit Q X hadv hlt B hl q=>?_))
  refine D.rows_by.w rfl ?_
  exact (r_reached D S one other L pre post M H _ _ B (fun u0=>q H B (.refl _ _)) fun h=>absurd hr h).up (by exact Nat.succ_pos _)
 have hlh:=lohi one other
 refine el_EAA (r_line_start D S (p:=loOf one other) (by exact ln 0x41f1c00128c1200101 rfl ((not_or.mp hr).1)) (ln 0x1041f1c91260100bc960112101c1000112 rfl ((not_or.mp hr).2) hlh)) fun l l1 l2 hl0=>?_
 have fin:∀ at_:Int,1≤at_→∃ (S':St) (many':Nat),∀ (L:Lay) (pre post:List Int) (M:Nat) (H:Hp) (lit:Addr) (Q:QV) (X:QX) (a2 a3:V),L.ks.map (·.2)=adv→lit∉L.all→Buf L pre post S M H→Lit lit cs fd H→(∀ H',Buf L pre post S' M H'→Fr L.all H H'→Q (.int many') H') →
   wSs g 16 (m_rows_by.drop 2) [some (.ref L.b),some (.ref lit),some a2,some a3,some (.bool kept),some (.int (loOf one other+pre.length)),some (.int (hiOf one other+pre.length)),some (.int (at_+pre.length)),none,none,none,none,none,none,none,none,none,none] (fun u0 H=>Q .none H) Q X H:=by
  intro at_ hat
  refine el_EE (rows_by_loop D adv (1+S.text.length - hiOf one other) (ln 0x41f1ca0096011202bc96011200111 rfl ((not_or.mp hr).2)) kept cs hcs fd _ S at_ 0 (ln 0x41f1b0000003c3011b00000032301110 rfl hS) hat (Nat.le_refl _)) fun S' many' h=>?_
  refine (in_EE S' many' (fun L pre post M H lit Q X a2 a3 hadv hlt B hl q=>?_))
  refine el_EE B.ib fun tk ck hb=>?_
  refine ⟨_,_,hb,rfl,_,rfl,?_⟩
  conv=>whnf
  rw [show 1+(pre.length:Int)+(S.text.length:Int) - (hiOf one other+pre.length)=1+S.text.length - hiOf one other by exact ln 0x41f2ca00961112a9601009611960112121 rfl]
  refine ⟨fun P hP=>?_⟩
  exact h L pre post M H lit _ _ P _ _ _ _ none none hadv hlt B hl hP fun H' B' F=>⟨q H' B' F,fun u0 u0 u0=>q H' B' F⟩
 by_cases hll:loOf one other=l
 ·have hll':(if other < one then other else one)=l:=hll
  refine el_EE (fin (loOf one other) (ln 0x1f041f1c00121c10122c1000102 rfl l1 hll)) fun S' many' hf=>?_
  refine (in_EEA (.inl (.int many')) S' (.inr ⟨_,rfl⟩) (fun L pre post M H lit Q X hadv hlt B hl q=>?_))
  have f:=hf L pre post M H lit Q X (.int (one+pre.length)) (.int (other+pre.length)) hadv hlt B hl q
  refine D.rows_by.w rfl ?_
  refine (r_reached D S one other L pre post M H _ _ B (fun h=>absurd h hr) fun u0=>?_).up (by exact Nat.succ_pos _)
  refine (hl0 L pre post M H _ _ B ?_).up (by exact Nat.le_of_ble_eq_true rfl)
  refine br (fun u0=>f) fun h=>absurd (congrArg (·+(pre.length:Int)) hll') h
 ·have hll':¬(if other < one then other else one)=l:=hll
  refine el_EAA (r_line_end D S (p:=loOf one other) (ln 0x1041f1c10121c00121c1000102 rfl l1 l2) (ln 0x1041f1c91260100bc960112101c1000112 rfl ((not_or.mp hr).2) hlh)) fun z z1 z2 hz=>?_
  refine el_EE (fin (z+1) (ln 0x41041f1c91210121c20121c00201c1000103 rfl l1 l2 z1)) fun S' many' hf=>?_
  refine (in_EEA (.inl (.int many')) S' (.inr ⟨_,rfl⟩) (fun L pre post M H lit Q X hadv hlt B hl q=>?_))
  have f:=hf L pre post M H lit Q X (.int (one+pre.length)) (.int (other+pre.length)) hadv hlt B hl q
  refine D.rows_by.w rfl ?_
  refine (r_reached D S one other L pre post M H _ _ B (fun h=>absurd h hr) fun u0=>?_).up (by exact Nat.succ_pos _)
  refine (hl0 L pre post M H _ _ B ?_).up (by exact Nat.le_of_ble_eq_true rfl)
  refine br (fun h=>absurd (addc h) hll') fun u0=>?_
  refine (hz L pre post M H _ _ B ?_).up (by exact Nat.le_of_ble_eq_true rfl)
  rw [show z+1+(pre.length:Int)=z+pre.length+1 by exact ln 0x41f2c912960100960191200111 rfl] at f
  exact f
theorem d_keep_lines (adv:List Bool) (S:St) (hS:S.text.length≤50) (one other:Int) (cs:List Int) (hcs:cs.length≤100) (fd:Bool):CmdL g 19 793 adv S cs fd fun b lit k=>[.ref b,.ref lit,.int (one+k),.int (other+k)]:=by
 refine el_EEA (d_rows_by D adv S hS one other cs hcs fd true) fun o S' ok h=>?_
 refine (in_EEA o S' ok (fun L pre post M H lit Q X hadv hlt B hl q=>?_))
 refine D.keep_lines.w rfl ?_
 exact h L pre post M H lit Q X hadv hlt B hl q
theorem d_flush_lines (adv:List Bool) (S:St) (hS:S.text.length≤50) (one other:Int) (cs:List Int) (hcs:cs.length≤100) (fd:Bool):CmdL g 19 800 adv S cs fd fun b lit k=>[.ref b,.ref lit,.int (one+k),.int (other+k)]:=by
 refine el_EEA (d_rows_by D adv S hS one other cs hcs fd false) fun o S' ok h=>?_
 refine (in_EEA o S' ok (fun L pre post M H lit Q X hadv hlt B hl q=>?_))
 refine D.flush_lines.w rfl ?_
 exact h L pre post M H lit Q X hadv hlt B hl q
end
end Mine
namespace Mine
theorem put_none {f:Hp} {a b:Addr} {o:O} (h:put f a o b=none):b≠a∧f b=none:=by
 by_cases q:b=a
 ·subst q;rw [put_at] at h;trivial
 ·rw [put_ne q] at h;exact ⟨q,h⟩
theorem MkAt.live {b:V} {H:Hp}:∀ {i:Nat} {ks:Mks} {ps:List Int},MkAt b i ks ps H→∀ x∈ks.map (·.1),H x≠none
 | _,[],_,_,x,hx=>by simp at hx
 | i,k::ks,ps,⟨p,r,e,h1,h2⟩,x,hx=>by
  simp only [List.map_cons,List.mem_cons] at hx
  rcases hx with rfl | hx
  ·rw [h1];simp
  ·exact h2.live x hx
theorem BufR.live {L:Lay} {full:List Int} {bg zv pt:Int} {ps:List Int} {M:Nat} {H:Hp} (S:BufR L full bg zv pt ps M H):∀ x∈L.all,H x≠none:=by
 refine el_EE S.ib fun tk ck h=>?_
 obtain ⟨A,G,B,e,h1,h2⟩:=S.ig
 intro x hx
 unfold Lay.all at hx
 simp only [List.mem_cons] at hx
 rcases hx with rfl | rfl | rfl | rfl | rfl | hx
 ·rw [h];simp
 ·rw [h2.it];simp
 ·rw [h2.ic];simp
 ·rw [S.im.im];simp
 ·rw [S.im.ir];simp
 ·exact S.im.at1.live x hx
section
variable {g:G} (D:Defs g)
include D
variable {H:Hp} {Q:QV} {X:QX}
theorem c_newGap (q:∀ t c H',H t=none→H c=none→c≠t→GapI t c [] 8 H'→Fr [t,c] H H'→Q (.ref t) H'):CallW g 3 456 [.lst [],.int 8] Q X H:=by
 refine D.cGap _ _ _ _ _ fun t ht=>?_
 refine D.GapText_init _ _ _ _ _ rfl ?_
 apply sa_ put_at
 conv=>whnf
 rw [put_put]
 refine ⟨by exact Nat.zero_le _,.inl ?_⟩
 refine ⟨by exact Nat.succ_pos _,.inl ?_⟩
 refine ⟨by decide,by decide,?_⟩
 refine ⟨by exact Nat.le_of_ble_eq_true rfl,.inl ?_⟩
 refine ⟨by exact Nat.le_of_ble_eq_true rfl,.inr fun c hc=>?_⟩
 obtain ⟨hct,hc⟩:=put_none hc
 apply sa_ (by exact (put_ne (Ne.symm (by assumption))).trans put_at)
 conv=>whnf
 rw [put_comm hct,put_put]
 apply sa_ (by exact (put_ne (Ne.symm (by assumption))).trans put_at)
 conv=>whnf
 rw [put_comm hct,put_put]
 apply sa_ (by exact (put_ne (Ne.symm (by assumption))).trans put_at)
 conv=>whnf
 rw [put_comm hct,put_put]
 refine ⟨rfl,q t c _ ht hc hct ⟨[],[0,0,0,0,0,0,0,0],[],rfl,by exact Nat.le_refl _,Ne.symm hct,?_,?_⟩ (((Fr.refl _ _).put (by exact .head _)).put (by exact .tail _ (.head _)))⟩
 ·rw [put_ne (Ne.symm hct),put_at];rfl
 ·rw [put_at];rfl
theorem c_newMarkers (q:∀ m r H',H m=none→H r=none→r≠m→MarkI (.ref 0) m r [] [] H'→Fr [m,r] H H'→Q (.ref m) H'):CallW g 3 601 [] Q X H:=by
 refine D.cMarkers _ _ _ _ _ fun m hm=>?_
 refine D.Markers_init _ _ _ _ _ rfl ?_
 refine ⟨fun r hr=>?_⟩
 obtain ⟨hrm,hr⟩:=put_none hr
 apply sa_ (by exact (put_ne (Ne.symm (by assumption))).trans put_at)
 conv=>whnf
 rw [put_comm hrm,put_put]
 refine ⟨rfl,q m r _ hm hr hrm ⟨?_,?_,rfl⟩ (((Fr.refl _ _).put (by exact .head _)).put (by exact .tail _ (.head _)))⟩
 ·rw [put_ne (Ne.symm hrm),put_at];rfl
 ·rw [put_at];rfl
theorem c_newMarker {i:Nat} {adv:Bool} (q:∀ a,H a=none→Q (.ref a) (put H a (.inst cMarker (mkF i adv .none 0)))):CallW g 2 533 [.int i,.bool adv] Q X H:=by
 refine D.cMarker _ _ _ _ _ fun a ha=>?_
 refine D.Marker_init _ _ _ _ _ rfl ?_
 apply sa_ put_at
 conv=>whnf
 rw [put_put]
 apply sa_ put_at
 conv=>whnf
 rw [put_put]
 apply sa_ put_at
 conv=>whnf
 rw [put_put]
 apply sa_ put_at
 conv=>whnf
 rw [put_put]
 exact ⟨rfl,q a ha⟩
theorem c_newLit {cs:List Int} {fd:Bool} (q:∀ a,H a=none→Q (.ref a) (put H a (.inst cLit [(28,.lst (vints cs)),(29,.bool fd)]))):CallW g 2 761 [.lst (vints cs),.bool fd] Q X H:=by
 refine D.cLit _ _ _ _ _ fun a ha=>?_
 refine D.Literal_init _ _ _ _ _ rfl ?_
 apply sa_ put_at
 conv=>whnf
 rw [put_put]
 apply sa_ put_at
 conv=>whnf
 rw [put_put]
 exact ⟨rfl,q a ha⟩
theorem c_newBuffer (q:∀ (L:Lay) H',L.ks=[]→(∀ x∈L.all,H x=none)→BufR L [] 1 1 1 [] 8 H'→Fr L.all H H'→Q (.ref L.b) H'):CallW g 6 707 [.int 1,.str (Str.ofString "a")] Q X H:=by
 refine D.cBuffer _ _ _ _ _ fun b hb=>?_
 refine D.Buffer_init _ _ _ _ _ rfl ?_
 refine ⟨_,_,put_at,rfl,(by show 0 < 100;exact Nat.succ_pos _),?_⟩
 rw [put_put]
 refine ⟨_,_,put_at,rfl,(by show 1 < 100;exact Nat.le_of_ble_eq_true rfl),?_⟩
 rw [put_put]
 refine ⟨by exact Nat.zero_le _,.inl ?_⟩
 refine (c_newGap D fun t c H1 ht hc hct g1 F1=>?_).up (by exact Nat.le_refl _)
 obtain ⟨htb,ht⟩:=put_none ht
 obtain ⟨hcb,hc⟩:=put_none hc
 have b1:H1 b=_:=(F1 b (by simp [Ne.symm htb,Ne.symm hcb])).trans put_at
 refine ⟨_,_,b1,rfl,(by show 2 < 100;exact Nat.le_of_ble_eq_true rfl),?_⟩
 refine (c_newMarkers D fun m r H2 hm hr hrm m2 F2=>?_).up (by exact Nat.le_refl _)
 obtain ⟨hmb,hm⟩:=put_none hm
 obtain ⟨hrb,hr⟩:=put_none hr
 have b2:H2 b=_:=(F2 b (by simp [Ne.symm hmb,Ne.symm hrb])).trans put_at
 have gs:∀ x,x=t∨x=c→H1 x≠none:=by
  obtain ⟨A,G,B,e,h1,h2⟩:=g1
  rintro x (rfl | rfl)
  ·rw [h2.it];simp
  ·rw [h2.ic];simp
 have hmt:m≠t:=fun e=>gs t (.inl rfl) (e▸hm)
 have hmc:m≠c:=fun e=>gs c (.inr rfl) (e▸hm)
 have hrt:r≠t:=fun e=>gs t (.inl rfl) (e▸hr)
 have hrc:r≠c:=fun e=>gs c (.inr rfl) (e▸hr)
 have hm0:H m=none:=by rw [F1 m (by exact ninS (by assumption) (ninS (by assumption) nin0)),put_ne hmb] at hm;exact hm
 have hr0:H r=none:=by rw [F1 r (by exact ninS (by assumption) (ninS (by assumption) nin0)),put_ne hrb] at hr;exact hr
 refine ⟨_,_,b2,rfl,(by show 3 < 100;exact Nat.le_of_ble_eq_true rfl),?_⟩
 refine (show wSs g 4 (m_Buffer___init__.drop 4) _ _ _ _ (put H2 b (.inst cBuffer [(19,.int 1),(1,.str (Str.ofString "a")),(6,.ref t),(10,.ref m)])) from ?_)
 refine ⟨_,_,put_at,rfl,(by show 4 < 100;exact Nat.le_of_ble_eq_true rfl),?_⟩
 rw [put_put]
 refine (show wSs g 4 (m_Buffer___init__.drop 5) _ _ _ _ (put H2 b (.inst cBuffer [(19,.int 1),(1,.str (Str.ofString "a")),(6,.ref t),(10,.ref m),(7,.int 1)])) from ?_)
 refine ⟨_,_,put_at,rfl,(by show 5 < 100;exact Nat.le_of_ble_eq_true rfl),?_⟩
 rw [put_put]
 refine (show wSs g 4 (m_Buffer___init__.drop 6) _ _ _ _ (put H2 b (.inst cBuffer [(19,.int 1),(1,.str (Str.ofString "a")),(6,.ref t),(10,.ref m),(7,.int 1),(2,.int 1)])) from ?_)
 refine ⟨_,_,put_at,rfl,(by show 6 < 100;exact Nat.le_of_ble_eq_true rfl),?_⟩
 rw [put_put]
 refine (show wSs g 4 (m_Buffer___init__.drop 7) _ _ _ _ (put H2 b (.inst cBuffer [(19,.int 1),(1,.str (Str.ofString "a")),(6,.ref t),(10,.ref m),(7,.int 1),(2,.int 1),(3,.int 1)])) from ?_)
 refine ⟨_,_,put_at,rfl,(by show 7 < 100;exact Nat.le_of_ble_eq_true rfl),?_⟩
 rw [put_put]
 refine (show wSs g 4 (m_Buffer___init__.drop 8) _ _ _ _ (put H2 b (.inst cBuffer [(19,.int 1),(1,.str (Str.ofString "a")),(6,.ref t),(10,.ref m),(7,.int 1),(2,.int 1),(3,.int 1),(11,.none)])) from ?_)
 refine ⟨_,_,put_at,rfl,(by show 8 < 100;exact Nat.le_of_ble_eq_true rfl),?_⟩
 rw [put_put]
 refine (show wSs g 4 (m_Buffer___init__.drop 9) _ _ _ _ (put H2 b (.inst cBuffer [(19,.int 1),(1,.str (Str.ofString "a")),(6,.ref t),(10,.ref m),(7,.int 1),(2,.int 1),(3,.int 1),(11,.none),(12,.bool true)])) from ?_)
 refine ⟨_,_,put_at,rfl,(by show 9 < 100;exact Nat.le_of_ble_eq_true rfl),?_⟩
 rw [put_put]
 refine (show wSs g 4 (m_Buffer___init__.drop 10) _ _ _ _ (put H2 b (.inst cBuffer [(19,.int 1),(1,.str (Str.ofString "a")),(6,.ref t),(10,.ref m),(7,.int 1),(2,.int 1),(3,.int 1),(11,.none),(12,.bool true),(0,.bool false)])) from ?_)
 refine ⟨_,_,put_at,rfl,(by show 10 < 100;exact Nat.le_of_ble_eq_true rfl),?_⟩
 rw [put_put]
 refine (show wSs g 4 (m_Buffer___init__.drop 11) _ _ _ _ (put H2 b (.inst cBuffer [(19,.int 1),(1,.str (Str.ofString "a")),(6,.ref t),(10,.ref m),(7,.int 1),(2,.int 1),(3,.int 1),(11,.none),(12,.bool true),(0,.bool false),(13,.int 1)])) from ?_)
 refine ⟨_,_,put_at,rfl,(by show 11 < 100;exact Nat.le_of_ble_eq_true rfl),?_⟩
 rw [put_put]
 refine (show wSs g 4 (m_Buffer___init__.drop 12) _ _ _ _ (put H2 b (.inst cBuffer [(19,.int 1),(1,.str (Str.ofString "a")),(6,.ref t),(10,.ref m),(7,.int 1),(2,.int 1),(3,.int 1),(11,.none),(12,.bool true),(0,.bool false),(13,.int 1),(14,.int 1)])) from ?_)
 refine ⟨_,_,put_at,rfl,(by show 12 < 100;exact Nat.le_of_ble_eq_true rfl),?_⟩
 rw [put_put]
 refine (show wSs g 4 (m_Buffer___init__.drop 13) _ _ _ _ (put H2 b (.inst cBuffer [(19,.int 1),(1,.str (Str.ofString "a")),(6,.ref t),(10,.ref m),(7,.int 1),(2,.int 1),(3,.int 1),(11,.none),(12,.bool true),(0,.bool false),(13,.int 1),(14,.int 1),(15,.int 1)])) from ?_)
 refine ⟨by exact Nat.zero_le _,.inl ?_⟩
 refine ⟨_,_,put_at,rfl,(by show 13 < 100;exact Nat.le_of_ble_eq_true rfl),?_⟩
 rw [put_put]
 refine (show wSs g 4 (m_Buffer___init__.drop 14) _ _ _ _ (put H2 b (.inst cBuffer [(19,.int 1),(1,.str (Str.ofString "a")),(6,.ref t),(10,.ref m),(7,.int 1),(2,.int 1),(3,.int 1),(11,.none),(12,.bool true),(0,.bool false),(13,.int 1),(14,.int 1),(15,.int 1),(4,.lst [])])) from ?_)
 refine ⟨_,_,put_at,rfl,(by show 14 < 100;exact Nat.le_of_ble_eq_true rfl),?_⟩
 rw [put_put]
 refine (show wSs g 4 (m_Buffer___init__.drop 15) _ _ _ _ (put H2 b (.inst cBuffer [(19,.int 1),(1,.str (Str.ofString "a")),(6,.ref t),(10,.ref m),(7,.int 1),(2,.int 1),(3,.int 1),(11,.none),(12,.bool true),(0,.bool false),(13,.int 1),(14,.int 1),(15,.int 1),(4,.lst []),(5,.none)])) from ?_)
 refine ⟨_,_,put_at,rfl,(by show 15 < 100;exact Nat.le_of_ble_eq_true rfl),?_⟩
 rw [put_put]
 refine (show wSs g 4 (m_Buffer___init__.drop 16) _ _ _ _ (put H2 b (.inst cBuffer [(19,.int 1),(1,.str (Str.ofString "a")),(6,.ref t),(10,.ref m),(7,.int 1),(2,.int 1),(3,.int 1),(11,.none),(12,.bool true),(0,.bool false),(13,.int 1),(14,.int 1),(15,.int 1),(4,.lst []),(5,.none),(8,.none)])) from ?_)
 refine ⟨_,_,put_at,rfl,(by show 16 < 100;exact Nat.le_of_ble_eq_true rfl),?_⟩
 rw [put_put]
 refine (show wSs g 4 (m_Buffer___init__.drop 17) _ _ _ _ (put H2 b (.inst cBuffer [(19,.int 1),(1,.str (Str.ofString "a")),(6,.ref t),(10,.ref m),(7,.int 1),(2,.int 1),(3,.int 1),(11,.none),(12,.bool true),(0,.bool false),(13,.int 1),(14,.int 1),(15,.int 1),(4,.lst []),(5,.none),(8,.none),(9,.none)])) from ?_)
 refine ⟨_,_,put_at,rfl,(by show 17 < 100;exact Nat.le_of_ble_eq_true rfl),?_⟩
 rw [put_put]
 refine (show wSs g 4 (m_Buffer___init__.drop 18) _ _ _ _ (put H2 b (.inst cBuffer [(19,.int 1),(1,.str (Str.ofString "a")),(6,.ref t),(10,.ref m),(7,.int 1),(2,.int 1),(3,.int 1),(11,.none),(12,.bool true),(0,.bool false),(13,.int 1),(14,.int 1),(15,.int 1),(4,.lst []),(5,.none),(8,.none),(9,.none),(16,.none)])) from ?_)
 refine ⟨_,_,put_at,rfl,(by show 18 < 100;exact Nat.le_of_ble_eq_true rfl),?_⟩
 rw [put_put]
 refine (show wSs g 4 (m_Buffer___init__.drop 19) _ _ _ _ (put H2 b (.inst cBuffer [(19,.int 1),(1,.str (Str.ofString "a")),(6,.ref t),(10,.ref m),(7,.int 1),(2,.int 1),(3,.int 1),(11,.none),(12,.bool true),(0,.bool false),(13,.int 1),(14,.int 1),(15,.int 1),(4,.lst []),(5,.none),(8,.none),(9,.none),(16,.none),(17,.none)])) from ?_)
 apply sa_ put_at
 conv=>whnf
 rw [put_put]
 refine ⟨rfl,q ⟨b,t,c,m,r,[]⟩ _ rfl ?_ ⟨?_,by exact Nat.succ_pos _,by exact Nat.le_of_ble_eq_true rfl,(in_EE 1 1 put_at),?_,?_⟩ ?_⟩
 ·intro x hx
  simp only [Lay.all,List.mem_cons,List.map_nil,List.not_mem_nil,or_false] at hx
  rcases hx with rfl | rfl | rfl | rfl | rfl
  ·exact hb
  ·exact ht
  ·exact hc
  ·exact hm0
  ·exact hr0
 ·simp only [Lay.all,List.map_nil,List.nodup_cons,List.mem_cons,List.not_mem_nil,or_false,not_or,not_false_eq_true,List.nodup_nil,and_true]
  exact (in_AAA (in_AAA (Ne.symm htb) (Ne.symm hcb) (Ne.symm hmb) (Ne.symm hrb)) (in_AA (Ne.symm hct) (Ne.symm hmt) (Ne.symm hrt)) ⟨Ne.symm hmc,Ne.symm hrc⟩ (Ne.symm hrm))
 ·refine g1.fr fun x hx=>?_
  have hxb:x≠b:=by rcases hx with rfl | rfl<;>assumption
  have hxm:x≠m∧x≠r:=by
   rcases hx with rfl | rfl
   ·exact ⟨Ne.symm hmt,Ne.symm hrt⟩
   ·exact ⟨Ne.symm hmc,Ne.symm hrc⟩
  rw [put_ne hxb,F2 x (by simp [hxm.1,hxm.2]),put_ne hxb]
 ·refine ⟨?_,?_,rfl⟩
  ·show put H2 b _ m=_
   rw [put_ne hmb];exact m2.im
  ·show put H2 b _ r=_
   rw [put_ne hrb];exact m2.ir
 ·intro x hx
  simp only [Lay.all,List.mem_cons,List.map_nil,List.not_mem_nil,or_false,not_or] at hx
  refine el_AAA hx fun x1 x2 x3 rt3=>?_;obtain ⟨x4,x5⟩:=rt3
  rw [put_ne x1,F2 x (by exact ninS (by assumption) (ninS (by assumption) nin0)),put_ne x1,F1 x (by exact ninS (by assumption) (ninS (by assumption) nin0)),put_ne x1]
end
end Mine
namespace Mine
theorem dput_rows (v:Addr) (adv:Bool):∀ (ks:Mks) (i:Nat),dput ((i+ks.length:Nat):Int) (.ref v) (rowsE i ks)=rowsE i (ks++[(v,adv)]):=by
 have key:∀ (ks:Mks) (i:Nat) (j:Nat),i+ks.length≤j→(rowsE i ks).any (fun e=>decide (e.1=(j:Int)))=false:=by
  intro ks
  induction ks with
  | nil=>intro i j h;rfl
  | cons k ks ih=>
   intro i j h
   simp only [List.length_cons] at h
   simp only [rowsE,List.any_cons,ih (i+1) j (by exact ln 0x41f1b21911912011b2199121101130 rfl h),Bool.or_false,decide_eq_false_iff_not]
   exact fun e=>absurd e (Int.ne_of_lt (by exact ln 0x41f0c6216011b2199121101130 rfl h))
 have app:∀ (ks:Mks) (i:Nat),rowsE i ks++[(((i+ks.length:Nat):Int),.ref v)]=rowsE i (ks++[(v,adv)]):=by
  intro ks
  induction ks with
  | nil=>intro i;rfl
  | cons k ks ih=>
   intro i
   simp only [rowsE,List.cons_append,List.length_cons]
   rw [← ih (i+1),show i+(ks.length+1)=i+1+ks.length by exact ln 0x41f2b9119120199121101120 rfl]
 intro ks i
 unfold dput
 rw [if_neg (by rw [key ks i _ (Nat.le_refl _)];exact Bool.noConfusion),app]
theorem MkAt.snoc {b:V} {H:Hp} {a:Addr} {adv:Bool} {p:Int}:∀ {i:Nat} {ks:Mks} {ps:List Int},MkAt b i ks ps H→H a=some (.inst cMarker (mkF (i+ks.length) adv b p))→MkAt b i (ks++[(a,adv)]) (ps++[p]) H
 | i,[],_,h,h1=>by
  simp only [MkAt] at h;subst h
  exact (in_EEAA p ([]) rfl h1 rfl)
 | i,k::ks,_,⟨p0,r,e,h2,h3⟩,h1=>by
  subst e
  refine (in_EEAA p0 (r++[p]) rfl h2 (h3.snoc ?_))
  rw [h1];simp only [List.length_cons];rw [show i+(ks.length+1)=i+1+ks.length from (Nat.add_right_comm i 1 _).symm]
section
variable {g:G} (D:Defs g)
include D
variable {L:Lay} {full:List Int} {bg zv pt:Int} {ps:List Int} {M:Nat} {H:Hp} {Q:QV} {X:QX}
theorem c_set_marker (S:BufR L full bg zv pt ps M H) {a:Addr} {adv:Bool} (hk:L.ks.length+1 < 60) (ha:H a=some (.inst cMarker (mkF (1+L.ks.length) adv .none 0))) (hn:a∉L.all) {p:Int} (h1:1≤p) (h2:p≤full.length+1)
  (q:∀ H',BufR { L with ks:=L.ks++[(a,adv)] } full bg zv pt (ps++[p]) M H'→Fr (a::L.all) H H'→Q .none H'):CallW g 6 814 [.ref a,.ref L.b,.int p] Q X H:=by
 have hab:a≠L.b:=fun e=>hn (by rw [e];exact L.b_mem)
 have ham:a≠L.m:=fun e=>hn (by rw [e];exact .tail _ (.tail _ (.tail _ (.head _))))
 have har:a≠L.r:=fun e=>hn (by rw [e];exact .tail _ (.tail _ (.tail _ (.tail _ (.head _)))))
 have hak:a∉L.ks.map (·.1):=fun e=>hn (by unfold Lay.all;simp only [List.mem_cons];exact .inr (.inr (.inr (.inr (.inr e)))))
 refine el_EE S.ib fun tk ck hb=>?_
 refine D.set_marker.w rfl ?_
 apply at_ ha
 refine brF (brF ?_)
 apply sa_ ha
 conv=>whnf
 obtain ⟨H1,e1⟩:∃ H1,H1=put H a (.inst cMarker (setF 25 (.ref L.b) (mkF (1+L.ks.length) adv .none 0))):=⟨_,rfl⟩
 rw [← e1]
 have ha1:H1 a=some (.inst cMarker (mkF (1+L.ks.length) adv (.ref L.b) 0)):=by rw [e1,put_at];rfl
 have F1:Fr [a] H H1:=by rw [e1];exact (Fr.refl _ _).put (by exact .head _)
 have S1:BufR L full bg zv pt ps M H1:=by
  have n:∀ x∈L.all,H1 x=H x:=fun x hx=>F1 x (by simp;intro e;exact hn (e▸hx))
  refine ⟨S.nd,S.hk,S.hM,(in_EE tk ck (by rw [n _ L.b_mem];exact hb)),S.ig.fr fun x hx=>n x (by rcases hx with rfl | rfl<;>simp [Lay.all]),S.im.fr fun x hx=>n x ?_⟩
  unfold Lay.all;exact .tail _ (.tail _ (.tail _ hx))
 refine el_EE S1.ib fun tk ck hb1=>?_
 refine brF ?_
 apply at_ hb1
 apply me_ S1.im.im
 apply me_ hb1
 refine (c_size D S1 ?_).up (by exact Nat.le_succ _)
 have ec:(if (full.length:Int)+1 < (if (1:Int) > p then 1 else p) then (full.length:Int)+1 else (if (1:Int) > p then 1 else p))=p:=by
  rw [if_neg (Int.not_lt.mpr h1),if_neg (by exact ln 0x41f8c009126011c91260100111 rfl h2)]
 conv=>whnf
 rw [ec]
 refine CallW.up (n:=1) ?_ (by exact Nat.succ_pos _)
 refine D.Markers_put.w rfl ?_
 apply at_ S1.im.im
 apply at_ ha1
 refine ⟨_,S1.im.ir,by rw [rowsE_len];have:=S.hk;exact ln 0x41f0b000003e83010b0000003c301110 rfl this,?_⟩
 rw [dput_rows a adv]
 apply sa_ (by rw [put_ne har];exact ha1)
 refine q _ ?_ (((F1.more (by simp)).put (by exact .tail _ (.tail _ (.tail _ (.tail _ (.tail _ (.head _))))))).put (by exact .head _))
 have nd:=S.nd
 have nd':=nd
 unfold Lay.all at nd'
 simp only [List.nodup_cons,List.mem_cons,not_or] at nd'
 refine el_AAA nd' fun rt0 rt1 rt2 rt3=>?_;obtain ⟨n1,n2,n3,n4,n5⟩:=rt0;obtain ⟨n6,n7,n8,n9⟩:=rt1;obtain ⟨n10,n11,n12⟩:=rt2;obtain ⟨⟨n13,n14⟩,n15,n16⟩:=rt3
 have hat:a≠L.t:=fun e=>hn (by rw [e];exact .tail _ (.head _))
 have hac:a≠L.c:=fun e=>hn (by rw [e];exact .tail _ (.tail _ (.head _)))
 refine ⟨?_,by simp;exact hk,S.hM,(in_EE tk ck ?_),S1.ig.fr fun x hx=>?_,?_,?_,?_⟩
 ·have e2:({ L with ks:=L.ks++[(a,adv)] }:Lay).all=L.all++[a]:=by simp [Lay.all]
  rw [e2,List.nodup_append]
  refine (in_AA nd (by exact nd1) (fun x hx y hy e=>?_))
  rw [List.mem_singleton] at hy
  exact hn (by rw [← hy,← e];exact hx)
 ·show put (put H1 L.r _) a _ L.b=_
  rw [put_ne (Ne.symm hab),put_ne n4];exact hb1
 ·rcases hx with rfl | rfl
  ·rw [put_ne (Ne.symm hat),put_ne n8]
  ·rw [put_ne (Ne.symm hac),put_ne n11]
 ·show put (put H1 L.r _) a _ L.m=_
  rw [put_ne (Ne.symm ham),put_ne n13];exact S1.im.im
 ·show put (put H1 L.r _) a _ L.r=_
  exact (put_ne (Ne.symm (by assumption))).trans put_at
 ·refine MkAt.snoc (S1.im.at1.fr fun x hx=>?_) ?_
  ·rw [put_ne (fun e=>by rw [e] at hx;exact hak hx),put_ne (fun e=>by rw [e] at hx;exact n15 hx)]
  ·rw [put_at];rfl
theorem c_narrow (S:BufR L full bg zv pt ps M H) {lo hi:Int} (h1:1≤lo) (h2:lo≤hi) (h3:hi≤full.length+1) (q:∀ H' pt',BufR L full lo hi pt' ps M H'→Fr L.all H H'→Q .none H'):CallW g 6 807 [.ref L.b,.int lo,.int hi] Q X H:=by
 refine el_EE S.ib fun tk ck hb=>?_
 obtain ⟨m1,m2⟩:=minmax_le D h2
 refine D.narrow.w rfl ?_
 conv=>whnf
 rw [m1,m2]
 refine br (fun h=>False.elim (ln 0x41f1c00120c1200001 rfl h1 h)) fun u0=>?_
 refine ⟨_,_,hb,_,rfl,?_⟩
 refine (c_size D S ?_).up (by decide)
 refine br (fun h=>False.elim (ln 0x41f1c912601003c91260100011 rfl h3 h)) fun u0=>?_
 refine ⟨_,_,hb,rfl,(by show 20 < 100;decide),?_⟩
 refine ⟨_,_,put_at,rfl,(by show 20 < 100;decide),?_⟩
 rw [put_put]
 refine (show wSs g 5 (m_narrow.drop 3) _ _ _ _ (put H L.b (.inst cBuffer (bufF L lo hi pt tk ck))) from ?_)
 apply me_ put_at
 apply at_ put_at
 refine CallW.up (n:=1) ?_ (by decide)
 refine D.Buffer_goto.w rfl ?_
 apply at_ put_at
 apply at_ put_at
 apply sa_ put_at
 conv=>whnf
 rw [put_put]
 apply at_ put_at
 exact q _ _ (S.putB (tk:=tk) (ck:=ck) rfl) ((Fr.refl _ _).put L.b_mem)
end
end Mine
namespace Mine
theorem BufR.fr {L:Lay} {full:List Int} {bg zv pt:Int} {ps:List Int} {M:Nat} {H H':Hp} (S:BufR L full bg zv pt ps M H) (n:∀ x∈L.all,H' x=H x):BufR L full bg zv pt ps M H':=by
 refine el_EE S.ib fun tk ck hb=>?_
 refine ⟨S.nd,S.hk,S.hM,(in_EE tk ck (by rw [n _ L.b_mem];exact hb)),S.ig.fr fun x hx=>n x (by rcases hx with rfl | rfl<;>simp [Lay.all]),S.im.fr fun x hx=>n x ?_⟩
 unfold Lay.all;exact .tail _ (.tail _ (.tail _ hx))
noncomputable def enumV:Nat→List Int→List V
 | _,[]=>[]
 | i,p::ps=>.tup [.int i,.int p]::enumV (i+1) ps
theorem enum_of:∀ (ps:List Int) (i:Nat),((vints ps).mapIdx fun j v=>V.tup [.int ((i+j:Nat):Int),v])=enumV i ps
 | []=>@fun u0=>rfl
 | p::ps=>@fun i=>by
  unfold vints enumV
  rw [List.map_cons,List.mapIdx_cons]
  congr 1
  rw [← enum_of ps (i+1)]
  unfold vints
  congr 1
  funext j v
  rw [show i+(j+1)=i+1+j from (Nat.add_right_comm i 1 j).symm]
noncomputable def advOf (i:Nat):Bool:=decide ((i:Int).fmod 2=1)
noncomputable def advFrom (i n:Nat):List Bool:=(List.range' i n).map advOf
noncomputable def refs (ks:Mks):List V:=ks.map fun k=>.ref k.1
theorem ix_last {xs:List V} {v:V} {P:V→Prop} (q:P v):IxW (xs++[v]) (-1) P:=by
 refine ⟨xs.length,?_,v,by simp,q⟩
 unfold seqIndex?
 simp
 exact ⟨⟨ln 0x1f1c991260151202110 rfl,ln 0x1f0c9126019912601512110 rfl⟩,ln 0x8417c1f2b11012c9912611512601120 rfl (Int.toNat_of_nonneg (ln 0x1f1c991260151202110 rfl))⟩
theorem BufR.weak {L:Lay} {full:List Int} {bg zv pt:Int} {ps:List Int} {M M':Nat} {H:Hp} (S:BufR L full bg zv pt ps M H) (h:M≤M') (h2:M'≤40000):BufR L full bg zv pt ps M' H:=by
 refine ⟨S.nd,S.hk,h2,S.ib,?_,S.im⟩
 obtain ⟨A,G,B,e,h1,h2⟩:=S.ig
 exact ⟨A,G,B,e,ln 0x1041f1b21011b21111b1101130 rfl h h1,h2⟩
section
variable {g:G} (D:Defs g)
include D
theorem lb_loop {full:List Int} {bg zv pt:Int} {M:Nat} {sA:Addr} (c pl:V) (R:QV) (N:QN):∀ (rest:List Int) (i:Nat) (L:Lay) (ps0:List Int) (H:Hp) (o4 o5:Option V),L.ks.length=i→i+rest.length≤50→sA∉L.all→BufR L full bg zv pt ps0 M H →
  H sA=some (.list (refs L.ks))→(∀ p∈rest,1≤p∧p≤(full.length:Int)+1) →
  (∀ (L':Lay) (H':Hp) (o4 o5:Option V),L'.b=L.b→L'.ks.map (·.2)=L.ks.map (·.2)++advFrom i rest.length→(∀ x∈L.all,x∈L'.all)→(∀ x∈L'.all,x∈L.all∨H x=none)→sA∉L'.all→BufR L' full bg zv pt (ps0++rest) M H'→H' sA=some (.list (refs L'.ks))→Fr (sA::L'.all) H H' →
   N [some c,some pl,some (.ref L.b),some (.ref sA),o4,o5,none,none,none,none,none] H') →
  loopW (EB g 11 4 5 (bodyOf m__law_buffer 2) R) (enumV i rest) [some c,some pl,some (.ref L.b),some (.ref sA),o4,o5,none,none,none,none,none] N H:=by
 intro rest
 induction rest with
 | nil=>exact fun i L ps0 H o4 o5 hi hlen hs S hsA hp q=>q L H o4 o5 rfl (by simp [advFrom]) (fun x hx=>hx) (fun x hx=>.inl hx) hs (by simpa using S) hsA (.refl _ _)
 | cons p rest ih=>
  intro i L ps0 H o4 o5 hi hlen hs S hsA hp q
  simp only [List.length_cons] at hlen
  conv=>whnf
  refine ⟨⟨_,hsA⟩,?_⟩
  conv=>whnf
  refine ⟨by decide,?_⟩
  conv=>whnf
  rw [show (i:Int)+1=((1+L.ks.length:Nat):Int) by exact ln 0x7c1841f2c6901129126112b1101120 rfl hi]
  refine (c_newMarker D fun a ha=>?_).up (by exact Nat.le_of_ble_eq_true rfl)
  have has:a≠sA:=fun e=>by rw [e,hsA] at ha;trivial
  have haL:a∉L.all:=fun e=>S.live a e ha
  refine ⟨_,by rw [put_ne (Ne.symm has)];exact hsA,by simp [refs];exact ln 0x1841f0b001000003212b01211b00000032399121101130 rfl hi hlen,?_⟩
  refine .inl ⟨_,put_at,?_⟩
  refine ix_last ?_
  obtain ⟨H2,e2⟩:∃ H2,H2=put (put H a (.inst cMarker (mkF (1+L.ks.length) (decide ((i:Int).fmod 2=1)) .none 0))) sA (.list (refs L.ks++[.ref a])):=⟨_,rfl⟩
  have F2:Fr [a,sA] H H2:=by rw [e2];exact ((Fr.refl _ _).put (by exact .head _)).put (by exact .tail _ (.head _))
  have S2:BufR L full bg zv pt ps0 M H2:=S.fr fun x hx=>F2 x (by
   simp only [List.mem_cons,List.not_mem_nil,or_false,not_or]
   exact ⟨fun e=>haL (e▸hx),fun e=>hs (e▸hx)⟩)
  have ha2:H2 a=some (.inst cMarker (mkF (1+L.ks.length) (advOf i) .none 0)):=by rw [e2,put_ne has,put_at];rfl
  have hs2:H2 sA=some (.list (refs L.ks++[.ref a])):=by rw [e2,put_at]
  conv=>whnf
  rw [← e2]
  have hp1:=hp p (.head _)
  refine (c_set_marker D S2 (ln 0x1841f0b0000003c3912212b01211b00000032399121101130 rfl hi hlen) ha2 haL hp1.1 hp1.2 fun H3 S3 F3=>?_).up (by exact Nat.le_of_ble_eq_true rfl)
  refine ih (i+1) { L with ks:=L.ks++[(a,advOf i)] } (ps0++[p]) H3 (some (.int i)) (some (.int p)) (by simp;exact hi) (ln 0x41f1b000000323911912011b00000032399121101120 rfl hlen) ?_ S3 ?_ (fun p' h'=>hp p' (.tail _ h')) ?_
  ·have e2:({ L with ks:=L.ks++[(a,advOf i)] }:Lay).all=L.all++[a]:=by simp [Lay.all]
   rw [e2];simp only [List.mem_append,List.mem_singleton,not_or];exact ⟨hs,Ne.symm has⟩
  ·rw [F3 sA (by simp only [List.mem_cons,not_or];exact ⟨Ne.symm has,hs⟩),hs2];simp [refs]
  ·intro L' H' o4' o5' hb hadv hsub hfr hsL' S' hsA' F'
   refine q L' H' o4' o5' hb ?_ (fun x hx=>hsub x (by rw [show ({ L with ks:=L.ks++[(a,advOf i)] }:Lay).all=L.all++[a] by simp [Lay.all]];exact List.mem_append_left _ hx)) (fun x hx=>?_) hsL' (by simpa using S') hsA' fun x hx=>?_
   ·rw [hadv];simp [advFrom,List.range'_succ]
   ·have e2:({ L with ks:=L.ks++[(a,advOf i)] }:Lay).all=L.all++[a]:=by simp [Lay.all]
    rcases hfr x hx with h | h
    ·rw [e2] at h
     rcases List.mem_append.mp h with h | h
     ·exact .inl h
     ·rw [List.mem_singleton.mp h];exact .inr ha
    ·by_cases hxL:x∈L.all
     ·exact .inl hxL
     ·refine .inr ?_
      by_cases hxa:x=a
      ·rw [hxa];exact ha
      ·have hxs:x≠sA:=fun e=>hsL' (e▸hx)
       rw [F3 x (by simp only [List.mem_cons,not_or];exact ⟨hxa,hxL⟩),F2 x (by exact ninS (by assumption) (ninS (by assumption) nin0))] at h
       exact h
   ·-- frame
    simp only [List.mem_cons,not_or] at hx
    have hx':=hx.2
    have e3:({ L with ks:=L.ks++[(a,advOf i)] }:Lay).all=L.all++[a]:=by simp [Lay.all]
    have hxL:x∉L.all++[a]:=fun h=>hx' (hsub x (by rw [e3];exact h))
    simp only [List.mem_append,List.mem_singleton,not_or] at hxL
    rw [F' x (by simp only [List.mem_cons,not_or];exact hx),F3 x (by simp only [List.mem_cons,not_or];exact ⟨hxL.2,hxL.1⟩),F2 x (by simp [hxL.2,hx.1])]
theorem c_law_buffer {cs ps:List Int} (hcs:cs.length≤60) (hps:ps.length≤40) (hp:∀ p∈ps,1≤p∧p≤(cs.length:Int)+1) {H:Hp} {Q:QV} {X:QX}
  (q:∀ (L:Lay) (H':Hp) (pt:Int),L.ks.map (·.2)=advFrom 0 ps.length→(∀ x∈L.all,H x=none)→BufR L cs 1 (1+cs.length) pt ps 100 H'→Fr L.all H H'→Q (.tup [.ref L.b,.lst (refs L.ks)]) H') :
  CallW g 13 828 [.lst (vints cs),.lst (vints ps)] Q X H:=by
 refine D.law_buffer.w rfl ?_
 refine (c_newBuffer D fun L H1 hks hfr B1 F1=>?_).up (by exact Nat.le_of_ble_eq_true rfl)
 refine ⟨by exact Nat.zero_le _,.inr fun sA hsA=>?_⟩
 have hsL:sA∉L.all:=fun e=>B1.live sA e hsA
 have B2:BufR L [] 1 1 1 [] 8 (put H1 sA (.list [])):=B1.fr fun x hx=>put_ne fun e=>hsL (e▸hx)
 have e0:put H1 sA (.list []) sA=some (.list (refs L.ks)):=by rw [put_at,hks];rfl
 -- from the filled buffer on
 have rest:∀ (H2:Hp) (pt:Int),BufR L cs 1 (1+cs.length) pt [] 100 H2→Fr L.all (put H1 sA (.list [])) H2 →
   wSs g 12 (m__law_buffer.drop 2) [some (.lst (vints cs)),some (.lst (vints ps)),some (.ref L.b),some (.ref sA),none,none,none,none,none,none,none] (fun u0 H=>Q .none H) Q X H2:=by
  intro H2 pt B F2
  refine (show wSs g 12 [.forE 4 5 (.var 1) (bodyOf m__law_buffer 2),.ret (.tup (.cons (.var 2) (.cons (.frz 3) (.nil))))] _ _ _ _ H2 from ?_)
  conv=>whnf
  have en:=enum_of ps 0
  simp only [Nat.zero_add] at en
  rw [en]
  refine (lb_loop D (.lst (vints cs)) (.lst (vints ps)) Q _ ps 0 L [] H2 none none (by rw [hks];rfl) (ln 0x41f1b000000323901021b00000028301110 rfl hps) hsL B (by rw [F2 sA hsL];exact e0) hp fun L' H' o4 o5 hb hadv hsub hfr' hsL' S' hsA' F'=>?_)
  refine ⟨_,hsA',?_⟩
  refine ⟨by exact Nat.le_of_ble_eq_true rfl,?_⟩
  rw [← hb]
  refine q L' _ pt (by rw [hadv,hks];rfl) (fun x hx=>?_) ?_ fun x hx=>?_
  ·rcases hfr' x hx with h | h
   ·exact hfr x h
   ·have hxL:x∉L.all:=fun e=>B.live x e h
    have hxs:x≠sA:=fun e=>hsL' (e▸hx)
    rw [F2 x hxL,put_ne hxs,F1 x hxL] at h
    exact h
  ·exact (S'.fr fun x hx=>del_ne fun e=>hsL' (e▸hx))
  ·by_cases hxs:x=sA
   ·rw [hxs,del_at]
    rw [F1 sA hsL] at hsA;exact hsA.symm
   ·have hxL:x∉L.all:=fun h=>hx (hsub x h)
    rw [del_ne hxs,F' x (by simp only [List.mem_cons,not_or];exact ⟨hxs,hx⟩),F2 x hxL,put_ne hxs,F1 x hxL]
 by_cases hn:cs=[]
 ·subst hn
  refine (c_insert_nil D B2 (by decide) (by decide) ?_).up (by exact Nat.le_refl _)
  exact rest _ 1 (B2.weak (by exact Nat.le_of_ble_eq_true rfl) (by exact Nat.le_of_ble_eq_true rfl)) (.refl _ _)
 ·have hpos:0 < cs.length:=List.length_pos_iff.mpr hn
  refine (c_insert D B2 (s:=0) (by rfl) (by decide) (by decide) (by exact Nat.le_refl _) hpos (ln 0x41f1b000027103011b0000003c301110 rfl hcs) (ln 0x41f1b00009c403982901821b0000003c301110 rfl hcs) fun H2 B3 F3=>?_).up (by exact Nat.le_refl _)
  refine rest H2 (1+cs.length) ?_ F3
  refine (B3.weak (M':=100) (ln 0x41f1b000000643982901821b0000003c301110 rfl hcs) (by exact Nat.le_of_ble_eq_true rfl)).to (by exact List.append_nil _) rfl rfl (by rw [hks];rfl)
end
end Mine
namespace Mine
noncomputable def litOf (c1:Int):List Int:=if c1.fmod 2=0 then [97] else [97,98]
theorem litOf_len (c1:Int):1≤(litOf c1).length∧(litOf c1).length≤2:=by unfold litOf;split<;>decide
theorem fmod2 (c1:Int):c1.fmod 2=0∨c1.fmod 2=1:=by
 rw [Int.fmod_eq_emod_of_nonneg _ (by decide)];exact Int.emod_two_eq c1
theorem cut_lit (c1:Int):cut [V.int 97,V.int 98] none (some (1+c1.fmod 2))=vints (litOf c1):=by
 rcases fmod2 c1 with h | h
 ·rw [show litOf c1=[97] by unfold litOf;rw [if_pos h],h];rfl
 ·rw [show litOf c1=[97,98] by unfold litOf;exact h▸rfl,h];rfl
theorem put_same {f:Hp} {a:Addr} {o:O} (h:f a=some o):put f a o=f:=by
 funext b;unfold put;split
 ·rename_i e;rw [e,h]
 ·rfl
section
variable {g:G} (D:Defs g)
include D
theorem c_law_draw {ds:List Int} {dA:Addr} {many:Int} (hm:0 < many) (hd:∀ d∈ds,0≤d) {H:Hp} {Q:QV} {X:QX} (hA:H dA=some (.list (vints ds)))
  (q:∀ x ds',0≤x→x < many→(∀ d∈ds',0≤d)→Q (.int x) (put H dA (.list (vints ds')))):CallW g 1 821 [.ref dA,.int many] Q X H:=by
 refine D.law_draw.w rfl ?_
 refine ⟨by decide,.inl ?_⟩
 refine ⟨_,hA,eqw_ints (bs:=[]) ?_⟩
 cases ds with
 | nil=>
  rw [show PyData.eqv (.list (([]:List Int).map .int)) (.list (([]:List Int).map .int))=true by simp [PyData.eqv,PyData.eqvAll]]
  refine brF ?_
  have:=q 0 [] (by decide) hm (fun u0 h=>nomatch h)
  rw [put_same hA] at this
  exact this
 | cons d ds=>
  rw [show PyData.eqv (.list ((d::ds).map .int)) (.list (([]:List Int).map .int))=false by simp [PyData.eqv,PyData.eqvAll]]
  refine brT ?_
  refine (in_EEA (vints ds) (.int d) hA ?_)
  have h0:=hd d (.head _)
  have e:d.fmod many=d % many:=Int.fmod_eq_emod_of_nonneg _ (ln 0x41f1c00020c0002101 rfl hm)
  exact ⟨Int.ne_of_gt hm,q _ ds (by rw [e];exact Int.emod_nonneg _ (Int.ne_of_gt hm)) (by rw [e];exact Int.emod_lt_of_pos _ hm) fun d' h'=>hd d' (.tail _ h')⟩
theorem done_pre {c0 c1 c2:Int} {b:Addr} {o1 o2:V} {H:Hp} {Q:QV} {X:QX}
  (w:∀ lit,H lit=none→wSs g 20 (m__law_done.drop 1) [some (.ref b),some (.lst [.int c0,.int c1,.int c2]),some o1,some o2,some (.int (c0.fmod 10)),some (.ref lit),none,none,none,none,none,none,none,none,none,none,none] (fun u0 H=>Q .none H) Q X
   (put H lit (.inst cLit [(28,.lst (vints (litOf c1))),(29,.bool (decide (c2.fmod 2=1)))]))):CallW g 21 835 [.ref b,.lst [.int c0,.int c1,.int c2],o1,o2] Q X H:=by
 refine D.law_done.w rfl ?_
 refine ix (k:=0) rfl ?_
 refine ⟨by decide,?_⟩
 refine ⟨by exact Nat.le_of_ble_eq_true rfl,.inl ?_⟩
 refine ix (k:=1) rfl ?_
 refine ⟨by decide,?_⟩
 conv=>whnf
 rw [cut_lit]
 refine ⟨by rw [vints_len];have:=litOf_len c1;exact ln 0x41f1b184011b2201110 rfl this.2,.inl ?_⟩
 refine ix (k:=2) rfl ?_
 refine ⟨by decide,?_⟩
 refine (c_newLit D fun lit hlit=>?_).up (by exact Nat.le_of_ble_eq_true rfl)
 exact w lit hlit
omit D in
theorem fr_del {l:List Addr} {H H':Hp} {x:Addr} {o:O} (hx:H x=none) (F:Fr l (put H x o) H'):Fr l H (del H' x):=fun y hy=>by
 by_cases e:y=x
 ·rw [e,del_at,hx]
 ·rw [del_ne e,F y hy,put_ne e]
omit D in
theorem sub_del (H:Hp) (x:Addr):Sub (del H x) H:=fun a o e=>by
 by_cases q:a=x
 ·rw [q,del_at] at e;trivial
 ·rw [del_ne q] at e;exact e
omit D in
theorem done_post {o:V ⊕ Str} {S S':St} {L:Lay} {pre post:List Int} {M:Nat} {H:Hp} {lit:Addr} {ob:O} {Q:QV} {X:QX} (hl:H lit=none) (B:Buf L pre post S M H)
  (q:∀ H' M',M'≤M+8008→Buf L pre post S' M' H'→Fr L.all H H'→match o with | .inl v=>Q v H' | .inr s=>X s H') :
  ∀ H' M',M'≤M+8008→Buf L pre post S' M' H'→Fr L.all (put H lit ob) H'→match (generalizing:=false) o with | .inl v=>∃ H'',Sub H'' H'∧Q v H'' | .inr s=>∃ H'',Sub H'' H'∧X s H'':=by
 intro H' M' hm B' F
 have hlL:lit∉L.all:=fun e=>B.live lit e hl
 have:=q (del H' lit) M' hm (B'.fr fun x hx=>del_ne fun e=>hlL (e▸hx)) (fr_del hl F)
 cases o with
 | inl v=>exact (in_EA _ (sub_del _ _) this)
 | inr s=>exact (in_EA _ (sub_del _ _) this)
omit D in
theorem done_buf {S:St} {L:Lay} {pre post:List Int} {M:Nat} {H:Hp} {lit:Addr} {ob:O} (hl:H lit=none) (B:Buf L pre post S M H):Buf L pre post S M (put H lit ob):=
 B.fr fun x hx=>put_ne fun e=>B.live lit (e▸hx) hl
theorem d_law_done (adv:List Bool) (S:St) (hS:S.text.length≤50) (one other c0 c1 c2:Int):Cmd g 21 835 adv S fun b k=>[.ref b,.lst [.int c0,.int c1,.int c2],.int (one+k),.int (other+k)]:=by
 have h0:(0:Int)≤c0.fmod 10∧c0.fmod 10 < 10:=by rw [Int.fmod_eq_emod_of_nonneg _ (by decide)];exact ⟨Int.emod_nonneg _ (by decide),Int.emod_lt_of_pos _ (by decide)⟩
 by_cases hw0:c0.fmod 10=0
 ·refine el_EEA (d_sort_rows D adv S hS one other (decide (c1.fmod 2=1)) (decide (c2.fmod 2=1))) fun o S' ok h=>?_
  refine (in_EEA o S' ok (fun L pre post M H Q X ha hM B q=>?_))
  refine CallW.drop (done_pre D fun lit hl=>?_)
  refine br (fun u0=>?_) fun h=>absurd hw0 h
  refine ix (k:=1) rfl ?_
  refine ⟨by decide,?_⟩
  refine ix (k:=2) rfl ?_
  refine ⟨by decide,?_⟩
  refine CallW.up (n:=18) ?_ (by exact Nat.le_succ _)
  exact h L pre post M _ _ _ ha hM (done_buf hl B) (done_post hl B q)
 by_cases hw1:c0.fmod 10=1
 ·refine el_EEA (d_sort_paragraphs D adv S hS one other (decide (c1.fmod 2=1)) (decide (c2.fmod 2=1))) fun o S' ok h=>?_
  refine (in_EEA o S' ok (fun L pre post M H Q X ha hM B q=>?_))
  refine CallW.drop (done_pre D fun lit hl=>?_)
  refine br (fun h=>absurd h hw0) fun u0=>?_
  refine br (fun u0=>?_) fun h=>absurd hw1 h
  refine ix (k:=1) rfl ?_
  refine ⟨by decide,?_⟩
  refine ix (k:=2) rfl ?_
  refine ⟨by decide,?_⟩
  refine CallW.up (n:=18) ?_ (by exact Nat.le_succ _)
  exact h L pre post M _ _ _ ha hM (done_buf hl B) (done_post hl B q)
 by_cases hw2:c0.fmod 10=2
 ·refine el_EEA (d_sort_fields D adv S hS one other (c1 - 3) (decide (c2.fmod 2=1))) fun o S' ok h=>?_
  refine (in_EEA o S' ok (fun L pre post M H Q X ha hM B q=>?_))
  refine CallW.drop (done_pre D fun lit hl=>?_)
  refine br (fun h=>absurd h hw0) fun u0=>?_
  refine br (fun h=>absurd h hw1) fun u0=>?_
  refine br (fun u0=>?_) fun h=>absurd hw2 h
  refine ix (k:=1) rfl ?_
  refine ix (k:=2) rfl ?_
  refine ⟨by decide,?_⟩
  refine CallW.up (n:=18) ?_ (by exact Nat.le_succ _)
  exact h L pre post M _ _ _ ha hM (done_buf hl B) (done_post hl B q)
 by_cases hw3:c0.fmod 10=3
 ·refine el_EEA (d_sort_number_fields D adv S hS one other (c1 - 3)) fun o S' ok h=>?_
  refine (in_EEA o S' ok (fun L pre post M H Q X ha hM B q=>?_))
  refine CallW.drop (done_pre D fun lit hl=>?_)
  refine br (fun h=>absurd h hw0) fun u0=>?_
  refine br (fun h=>absurd h hw1) fun u0=>?_
  refine br (fun h=>absurd h hw2) fun u0=>?_
  refine br (fun u0=>?_) fun h=>absurd hw3 h
  refine ix (k:=1) rfl ?_
  refine CallW.up (n:=18) ?_ (by exact Nat.le_succ _)
  exact h L pre post M _ _ _ ha hM (done_buf hl B) (done_post hl B q)
 by_cases hw4:c0.fmod 10=4
 ·refine el_EEA (d_sort_columns D adv S hS one other (decide (c1.fmod 2=1)) (decide (c2.fmod 2=1))) fun o S' ok h=>?_
  refine (in_EEA o S' ok (fun L pre post M H Q X ha hM B q=>?_))
  refine CallW.drop (done_pre D fun lit hl=>?_)
  refine br (fun h=>absurd h hw0) fun u0=>?_
  refine br (fun h=>absurd h hw1) fun u0=>?_
  refine br (fun h=>absurd h hw2) fun u0=>?_
  refine br (fun h=>absurd h hw3) fun u0=>?_
  refine br (fun u0=>?_) fun h=>absurd hw4 h
  refine ix (k:=1) rfl ?_
  refine ⟨by decide,?_⟩
  refine ix (k:=2) rfl ?_
  refine ⟨by decide,?_⟩
  refine CallW.up (n:=18) ?_ (by exact Nat.le_succ _)
  exact h L pre post M _ _ _ ha hM (done_buf hl B) (done_post hl B q)
 by_cases hw5:c0.fmod 10=5
 ·refine el_EEA (d_reverse_region D adv S hS one other) fun o S' ok h=>?_
  refine (in_EEA o S' ok (fun L pre post M H Q X ha hM B q=>?_))
  refine CallW.drop (done_pre D fun lit hl=>?_)
  refine br (fun h=>absurd h hw0) fun u0=>?_
  refine br (fun h=>absurd h hw1) fun u0=>?_
  refine br (fun h=>absurd h hw2) fun u0=>?_
  refine br (fun h=>absurd h hw3) fun u0=>?_
  refine br (fun h=>absurd h hw4) fun u0=>?_
  refine br (fun u0=>?_) fun h=>absurd hw5 h
  refine CallW.up (n:=18) ?_ (by exact Nat.le_succ _)
  exact h L pre post M _ _ _ ha hM (done_buf hl B) (done_post hl B q)
 by_cases hw6:c0.fmod 10=6
 ·refine el_EEA (d_delete_double_rows D adv S hS one other (decide (c1.fmod 2=1)) (decide (c2.fmod 2=1))) fun o S' ok h=>?_
  refine (in_EEA o S' ok (fun L pre post M H Q X ha hM B q=>?_))
  refine CallW.drop (done_pre D fun lit hl=>?_)
  refine br (fun h=>absurd h hw0) fun u0=>?_
  refine br (fun h=>absurd h hw1) fun u0=>?_
  refine br (fun h=>absurd h hw2) fun u0=>?_
  refine br (fun h=>absurd h hw3) fun u0=>?_
  refine br (fun h=>absurd h hw4) fun u0=>?_
  refine br (fun h=>absurd h hw5) fun u0=>?_
  refine br (fun u0=>?_) fun h=>absurd hw6 h
  refine ix (k:=1) rfl ?_
  refine ⟨by decide,?_⟩
  refine ix (k:=2) rfl ?_
  refine ⟨by decide,?_⟩
  refine CallW.up (n:=18) ?_ (by exact Nat.le_succ _)
  exact h L pre post M _ _ _ ha hM (done_buf hl B) (done_post hl B q)
 by_cases hw7:c0.fmod 10=7
 ·refine el_EA (d_how_many D S hS one other (litOf c1) (litOf_len c1).1 (by have:=litOf_len c1;exact ln 0x41f1b000000643011b2201110 rfl this.2) (decide (c2.fmod 2=1))) fun o ok h=>?_
  refine (in_EEA o S ok (fun L pre post M H Q X ha hM B q=>?_))
  refine CallW.drop (done_pre D fun lit hl=>?_)
  refine br (fun h=>absurd h hw0) fun u0=>?_
  refine br (fun h=>absurd h hw1) fun u0=>?_
  refine br (fun h=>absurd h hw2) fun u0=>?_
  refine br (fun h=>absurd h hw3) fun u0=>?_
  refine br (fun h=>absurd h hw4) fun u0=>?_
  refine br (fun h=>absurd h hw5) fun u0=>?_
  refine br (fun h=>absurd h hw6) fun u0=>?_
  refine br (fun u0=>?_) fun h=>absurd hw7 h
  refine (h L pre post M _ lit _ _ (done_buf hl B) put_at ?_).up (by exact Nat.le_of_ble_eq_true rfl)
  exact done_post hl B q (put H lit _) M (ln 0x1f1b900001f4830101110 rfl) (done_buf hl B) (.refl _ _)
 by_cases hw8:c0.fmod 10=8
 ·refine el_EEA (d_keep_lines D adv S hS one other (litOf c1) (by have:=litOf_len c1;exact ln 0x41f1b000000643011b2201110 rfl this.2) (decide (c2.fmod 2=1))) fun o S' ok h=>?_
  refine (in_EEA o S' ok (fun L pre post M H Q X ha hM B q=>?_))
  refine CallW.drop (done_pre D fun lit hl=>?_)
  refine br (fun h=>absurd h hw0) fun u0=>?_
  refine br (fun h=>absurd h hw1) fun u0=>?_
  refine br (fun h=>absurd h hw2) fun u0=>?_
  refine br (fun h=>absurd h hw3) fun u0=>?_
  refine br (fun h=>absurd h hw4) fun u0=>?_
  refine br (fun h=>absurd h hw5) fun u0=>?_
  refine br (fun h=>absurd h hw6) fun u0=>?_
  refine br (fun h=>absurd h hw7) fun u0=>?_
  refine br (fun u0=>?_) fun h=>absurd hw8 h
  exact h L pre post M _ lit _ _ ha (fun e=>B.live lit e hl) (done_buf hl B) put_at fun H' B' F=>done_post hl B q H' M (ln 0x1f1b900001f4830101110 rfl) B' F
 ·refine el_EEA (d_flush_lines D adv S hS one other (litOf c1) (by have:=litOf_len c1;exact ln 0x41f1b000000643011b2201110 rfl this.2) (decide (c2.fmod 2=1))) fun o S' ok h=>?_
  refine (in_EEA o S' ok (fun L pre post M H Q X ha hM B q=>?_))
  refine CallW.drop (done_pre D fun lit hl=>?_)
  refine br (fun h=>absurd h hw0) fun u0=>?_
  refine br (fun h=>absurd h hw1) fun u0=>?_
  refine br (fun h=>absurd h hw2) fun u0=>?_
  refine br (fun h=>absurd h hw3) fun u0=>?_
  refine br (fun h=>absurd h hw4) fun u0=>?_
  refine br (fun h=>absurd h hw5) fun u0=>?_
  refine br (fun h=>absurd h hw6) fun u0=>?_
  refine br (fun h=>absurd h hw7) fun u0=>?_
  refine br (fun h=>absurd h hw8) fun u0=>?_
  exact h L pre post M _ lit _ _ ha (fun e=>B.live lit e hl) (done_buf hl B) put_at fun H' B' F=>done_post hl B q H' M (ln 0x1f1b900001f4830101110 rfl) B' F
end
end Mine
namespace Mine
theorem vcutTo {l:List Int} {b:Int} {j:Nat} (hb:b=j):cut (vints l) none (some b)=vints (l.take j):=by
 subst hb
 unfold cut
 have h1:kms_lo none (vints l).length=0:=rfl
 have h2:kms_hi (some (j:Int)) (vints l).length=min j l.length:=by
  unfold kms_hi
  simp only [Int.toNat_natCast]
  rw [if_neg (by exact ln 0x1f8c02601110 rfl),vints_len]
 rw [h1,h2]
 unfold vints
 rw [List.drop_zero,← List.map_take]
 congr 1
 rw [Nat.sub_zero]
 rcases Nat.le_total j l.length with h | h
 ·rw [Nat.min_eq_left h]
 ·rw [Nat.min_eq_right h,List.take_of_length_le (Nat.le_refl _),List.take_of_length_le h]
theorem vcutFrom {l:List Int} {a:Int} {i:Nat} (ha:a=i):cut (vints l) (some a) none=vints (l.drop i):=by
 subst ha
 unfold cut
 have h1:kms_lo (some (i:Int)) (vints l).length=min i l.length:=by
  unfold kms_lo
  simp only [Int.toNat_natCast]
  rw [if_neg (by exact ln 0x1f8c02601110 rfl),vints_len]
 have h2:kms_hi none (vints l).length=l.length:=by unfold kms_hi;exact vints_len l
 rw [h1,h2]
 unfold vints
 rw [← List.map_drop,← List.map_take]
 congr 1
 rcases Nat.le_total i l.length with h | h
 ·rw [Nat.min_eq_left h,List.take_of_length_le (by simp)]
 ·rw [Nat.min_eq_right h,List.drop_eq_nil_of_le (Nat.le_refl _),List.drop_eq_nil_of_le h];simp
noncomputable def Plain (u:V):Prop:=∀ k:Bool→Prop,k true→EqW u u k
theorem plain_told {v:V} (h:v=.none∨∃ i,v=.int i):Plain (.tup [.str (Str.ofString "told"),v]):=by
 intro k hk
 rcases h with rfl | ⟨i,rfl⟩
 ·exact ⟨_,_,rfl,rfl,by decide +kernel,by decide +kernel,by
   rw [show PyData.eqv (.tuple [.str (Str.ofString "told"),.none]) (.tuple [.str (Str.ofString "told"),.none])=true by rfl];exact hk⟩
 ·have sh:SeqAt.shaped (.tuple [.str (Str.ofString "told"),.int i])=true:=by
   have:PyData.strOk (Str.ofString "told")=true:=by decide +kernel
   simp [SeqAt.shaped,PyData.canLay0,PyData.canLayAll0,PyData.depth,PyData.depthAll,this]
  exact ⟨_,_,rfl,rfl,sh,sh,by
   rw [show PyData.eqv (.tuple [.str (Str.ofString "told"),.int i]) (.tuple [.str (Str.ofString "told"),.int i])=true by simp [PyData.eqv,PyData.eqvAll]];exact hk⟩
theorem plain_refused {s:Str} (h:s=Str.ofString "args-out-of-range"∨s=Str.ofString "error"):Plain (.tup [.str (Str.ofString "refused"),.str s]):=by
 intro k hk
 have sh:SeqAt.shaped (.tuple [.str (Str.ofString "refused"),.str s])=true:=by
  rcases h with rfl | rfl<;>decide +kernel
 exact ⟨_,_,rfl,rfl,sh,sh,by
  rw [show PyData.eqv (.tuple [.str (Str.ofString "refused"),.str s]) (.tuple [.str (Str.ofString "refused"),.str s])=true by simp [PyData.eqv,PyData.eqvAll]];exact hk⟩
theorem comp_marks {b:V} {el:V→QV→Hp→Prop} {a:Addr} {H:Hp} {N:Hp→Prop} (f:Int→Int) (ha:H a=none) (hel:∀ (x:Addr) (i:Nat) (adv:Bool) (p:Int) (Q:QV) (H:Hp),H x=some (.inst cMarker (mkF i adv b p))→Q (.int (f p)) H→el (.ref x) Q H) :
  ∀ (ks:Mks) (i:Nat) (ps:List Int) (acc:List Int),MkAt b i ks ps H→acc.length+ks.length≤1000→N (put H a (.list (vints (acc++ps.map f))))→compW el a (refs ks) N (put H a (.list (vints acc))):=by
 intro ks
 induction ks with
 | nil=>intro i ps acc h _ q;simp only [MkAt] at h;subst h;simpa [compW,refs] using q
 | cons k ks ih=>
  intro i ps acc h hl q
  refine el_EEAA h fun p r rf2 h1 h2=>?_;subst rf2
  simp only [List.length_cons] at hl
  have hka:k.1≠a:=fun e=>by rw [e,ha] at h1;trivial
  refine hel k.1 i k.2 p _ _ (by rw [put_ne hka];exact h1) ⟨_,put_at,by rw [vints_len];exact ln 0x41f0b144011b000003e8399121101120 rfl hl,?_⟩
  rw [put_put]
  have:=ih (i+1) r (acc++[f p]) h2 (by simp;exact ln 0x41f1b000003e83911912011b000003e8399121101120 rfl hl) (by simpa using q)
  rw [show vints acc++[V.int (f p)]=vints (acc++[f p]) by simp [vints]]
  exact this
section
variable {g:G} (D:Defs g)
include D
theorem c_codes_all {L:Lay} {full:List Int} {bg zv pt:Int} {ps:List Int} {M:Nat} {H:Hp} {Q:QV} {X:QX} (S:BufR L full bg zv pt ps M H) (q:Q (.lst (vints full)) H):CallW g 3 669 [.ref L.b,.int 1,.int (full.length+1)] Q X H:=by
 refine el_EE S.ib fun tk ck h=>?_
 obtain ⟨A,G,B',e0,h3,h4⟩:=S.ig
 refine D.Buffer_codes.w rfl ?_
 apply at_ h
 apply me_ h4.it
 conv=>whnf
 rw [show (full.length:Int)+1 - 1=((full.length:Nat):Int) from Int.add_sub_cancel _ _]
 have hM:=S.hM
 refine (c_icodes D S.ig (s:=0) (ln 0x41f1b0000c3503011b00009c40301110 rfl hM) (by exact Nat.zero_le _) (Nat.le_refl _) ?_).up (by exact Nat.le_refl _)
 simpa using q
theorem d_law_outcome (adv:List Bool) (S:St) (hS:S.text.length≤50) (one other c0 c1 c2:Int):∃ (us:List V) (S':St),Plain (.tup us)∧∀ (L:Lay) (pre post:List Int) (M:Nat) (H:Hp) (Q:QV) (X:QX),L.ks.map (·.2)=adv→M+8008≤40000→Buf L pre post S M H →
  (∀ H' M',M'≤M+8008→Buf L pre post S' M' H'→Fr L.all H H'→Q (.tup us) H')→CallW g 23 842 [.ref L.b,.lst [.int c0,.int c1,.int c2],.int (one+pre.length),.int (other+pre.length)] Q X H:=by
 refine el_EEA (d_law_done D adv S hS one other c0 c1 c2) fun o S' ok h=>?_
 cases o with
 | inl v=>
  refine (in_EEA _ S' (plain_told ok) (fun L pre post M H Q X ha hM B q=>?_))
  refine (D.outcome _ _ _ _ _ rfl ?_).w
  refine h L pre post M H _ _ ha hM B fun H' M' hm B' F=>?_
  exact ⟨by exact Nat.le_of_ble_eq_true rfl,q H' M' hm B' F⟩
 | inr s=>
  refine (in_EEA _ S' (plain_refused ok) (fun L pre post M H Q X ha hM B q=>?_))
  refine (D.outcome _ _ _ _ _ rfl ?_).w
  exact h L pre post M H _ _ ha hM B fun H' M' hm B' F=>q H' M' hm B' F
end
end Mine
namespace Mine
noncomputable abbrev LawL (script deck signs codes size low high part places one other choice alone own whole more:V):Loc:=
 [some script,some deck,some signs,some codes,some size,some low,some high,some part,some places,some one,some other,some choice,some alone,some own,some whole,some more,none,none,none,none,none,none,none,none]
noncomputable abbrev LawL2 (script deck signs codes size low high part places one other choice alone own whole more due:V) (now:Option V):Loc:=
 [some script,some deck,some signs,some codes,some size,some low,some high,some part,some places,some one,some other,some choice,some alone,some own,some whole,some more,some due,now,none,none,none,none,none,none]
theorem eqw_two {a b c d:Int} {k:Bool→Prop} (e1:a=c) (e2:b=d) (h:k true):EqW (.lst [.int a,.int b]) (.lst [.int c,.int d]) k:=by
 subst e1 e2
 have:=eqw_ints (as:=[a,b]) (bs:=[a,b]) (k:=k) (by rw [eqv_refl];exact h)
 exact this
section
variable {g:G} (D:Defs g)
include D
variable {H:Hp} {Q:QV} {X:QX} {x0 x1 x2 x4 x7 x8 x9 x10 x11 x16 x17:V}
theorem law_e5 {La Lw:Lay} {fa fw:List Int} {bga zva pta bgw zvw ptw:Int} {ps:List Int} {k lo:Int} {Ma Mw:Nat} {x3 x6:V} (hlo:lo=1+k)
  (Ba:BufR La fa bga zva pta (ps.map fun p=>p+0) Ma H) (Bw:BufR Lw fw bgw zvw ptw (ps.map fun p=>p+k) Mw H) (q:∀ H',Q (.bool true) H') :
  wSs g 24 (m_law.drop 19) (LawL2 x0 x1 x2 x3 x4 (.int lo) x6 x7 x8 x9 x10 x11 (.ref La.b) (.lst (refs La.ks)) (.ref Lw.b) (.lst (refs Lw.ks)) x16 (some x17)) (fun u0 H=>Q .none H) Q X H:=by
 intro a ha'
 refine comp_marks (f:=fun p=>p) ha' (fun x i adv p Q' H' e k=>?_) Lw.ks 1 _ [] Bw.im.at1 (by have:=Bw.hk;simp;exact ln 0x41f1b000003e83010b0000003c301110 rfl this) ?_
 ·exact ⟨_,_,e,rfl,_,rfl,k⟩
 refine .inr ⟨_,put_at,?_⟩
 rw [del_put ha']
 intro b hb'
 refine comp_marks (f:=fun p=>p+lo - 1) hb' (fun x i adv p Q' H' e k=>?_) La.ks 1 _ [] Ba.im.at1 (by have:=Ba.hk;simp;exact ln 0x41f1b000003e83010b0000003c301110 rfl this) ?_
 ·exact ⟨_,_,e,rfl,_,rfl,k⟩
 refine .inr ⟨_,put_at,?_⟩
 rw [del_put hb']
 refine eqw_ints ?_
 have e:[]++((ps.map fun p=>p+0).map fun p=>p+lo - 1)=[]++((ps.map fun p=>p+k).map fun p=>p):=by
  simp only [List.nil_append,List.map_map]
  apply List.map_congr_left
  intro p _
  simp;exact ln 0x8417c1f2c91020a12900202c9101200103 rfl hlo
 rw [e,eqv_refl]
 exact q _
theorem law_e4 {La Lw:Lay} {fa fw:List Int} {bga zva pta bgw zvw ptw:Int} {psa psw:List Int} {lo:Int} {Ma Mw:Nat} {x3 x6 x13 x15:V} (hpt:ptw=pta+lo - 1)
  (Ba:BufR La fa bga zva pta psa Ma H) (Bw:BufR Lw fw bgw zvw ptw psw Mw H)
  (w:wSs g 24 (m_law.drop 19) (LawL2 x0 x1 x2 x3 x4 (.int lo) x6 x7 x8 x9 x10 x11 (.ref La.b) x13 (.ref Lw.b) x15 x16 (some x17)) (fun u0 H=>Q .none H) Q X H) :
  wSs g 24 (m_law.drop 18) (LawL2 x0 x1 x2 x3 x4 (.int lo) x6 x7 x8 x9 x10 x11 (.ref La.b) x13 (.ref Lw.b) x15 x16 (some x17)) (fun u0 H=>Q .none H) Q X H:=by
 refine el_EE Ba.ib fun tka cka hba=>?_
 refine el_EE Bw.ib fun tkw ckw hbw=>?_
 apply at_ hbw
 apply at_ hba
 conv=>whnf
 rw [decide_eq_true hpt]
 exact brF w
theorem law_e3 {La Lw:Lay} {fa fw:List Int} {bga zva pta bgw zvw ptw:Int} {psa psw:List Int} {lo:Int} {Ma Mw:Nat} {x3 x6 x13 x15:V} (h1:bgw=lo) (h2:zvw=lo+fa.length)
  (Ba:BufR La fa bga zva pta psa Ma H) (Bw:BufR Lw fw bgw zvw ptw psw Mw H)
  (w:wSs g 24 (m_law.drop 18) (LawL2 x0 x1 x2 x3 x4 (.int lo) x6 x7 x8 x9 x10 x11 (.ref La.b) x13 (.ref Lw.b) x15 x16 (some (.lst (vints fw)))) (fun u0 H=>Q .none H) Q X H) :
  wSs g 24 (m_law.drop 17) (LawL2 x0 x1 x2 x3 x4 (.int lo) x6 x7 x8 x9 x10 x11 (.ref La.b) x13 (.ref Lw.b) x15 x16 (some (.lst (vints fw)))) (fun u0 H=>Q .none H) Q X H:=by
 refine el_EE Ba.ib fun tka cka hba=>?_
 refine el_EE Bw.ib fun tkw ckw hbw=>?_
 apply me_ hbw
 apply me_ hbw
 refine (c_size D Bw ?_).up (by exact Nat.le_of_ble_eq_true rfl)
 refine (c_codes_all D Bw ?_).up (by exact Nat.le_of_ble_eq_true rfl)
 refine eqw_ints ?_
 rw [eqv_refl]
 refine brF ?_
 apply at_ hbw
 apply at_ hbw
 refine ⟨by exact Nat.le_of_ble_eq_true rfl,.inl ?_⟩
 apply me_ hba
 refine (c_size D Ba ?_).up (by exact Nat.le_of_ble_eq_true rfl)
 refine ⟨by exact Nat.le_of_ble_eq_true rfl,.inl ?_⟩
 refine eqw_two h1 h2 ?_
 exact brF w
theorem law_e2 {La Lw:Lay} {fa fw cs pre post:List Int} {bga zva pta bgw zvw ptw:Int} {psa psw:List Int} {lo hi:Int} {Ma Mw:Nat} {x13 x15:V} (hf:fw=pre++fa++post)
  (hlo:lo=1+(pre.length:Int)) (hpre:cs.take pre.length=pre) (hhi:1≤hi) (hpost:cs.drop (hi - 1).toNat=post) (hcs:cs.length≤60)
  (Ba:BufR La fa bga zva pta psa Ma H) (Bw:BufR Lw fw bgw zvw ptw psw Mw H)
  (w:wSs g 24 (m_law.drop 17) (LawL2 x0 x1 x2 (.lst (vints cs)) x4 (.int lo) (.int hi) x7 x8 x9 x10 x11 (.ref La.b) x13 (.ref Lw.b) x15 x16 (some (.lst (vints fw)))) (fun u0 H=>Q .none H) Q X H) :
  wSs g 24 (m_law.drop 16) (LawL2 x0 x1 x2 (.lst (vints cs)) x4 (.int lo) (.int hi) x7 x8 x9 x10 x11 (.ref La.b) x13 (.ref Lw.b) x15 x16 none) (fun u0 H=>Q .none H) Q X H:=by
 refine el_EE Ba.ib fun tka cka hba=>?_
 have hl:=Bw.le
 have e1:cut (vints cs) none (some (lo - 1))=vints pre:=by rw [vcutTo (j:=pre.length) (by exact ln 0x8417c1f2c601a12002c96011200111 rfl hlo),hpre]
 have e2:cut (vints cs) (some (hi - 1)) none=vints post:=by rw [vcutFrom (i:=(hi - 1).toNat) (by exact ln 0x7c1841f2c601a12002ca1200601111 rfl (Int.toNat_of_nonneg (ln 0x41f1ca1200021c0012101 rfl hhi))),hpost]
 have e3:vints pre++vints fa=vints (pre++fa):=vints_app _ _
 have e4:vints (pre++fa)++vints post=vints fw:=by rw [vints_app,hf]
 have l1:(vints pre).length≤2 ^ 24:=by rw [vints_len];rw [hf] at hl;simp at hl;exact ln 0x41f1b184011b00009c40399211101130 rfl hl
 have l2:(vints post).length≤2 ^ 24:=by rw [vints_len];rw [hf] at hl;simp at hl;exact ln 0x41f1b184211b00009c40399211101130 rfl hl
 have l3:(vints (pre++fa)).length≤2 ^ 24:=by rw [vints_len];rw [hf] at hl;simp at hl ⊢;exact ln 0x41f1b010000003911011b00009c40399211101130 rfl hl
 have l4:(vints fw).length≤2 ^ 24:=by rw [vints_len];exact ln 0x41f1b184011b00009c40301110 rfl hl
 conv=>whnf
 rw [e1]
 refine ⟨l1,.inl ?_⟩
 apply me_ hba
 apply me_ hba
 refine (c_size D Ba ?_).up (by exact Nat.le_of_ble_eq_true rfl)
 refine (c_codes_all D Ba ?_).up (by exact Nat.le_of_ble_eq_true rfl)
 conv=>whnf
 rw [e3]
 refine ⟨l3,.inl ?_⟩
 conv=>whnf
 rw [e2]
 refine ⟨l2,.inl ?_⟩
 conv=>whnf
 rw [e4]
 exact ⟨l4,.inl w⟩
theorem law_e1 {La Lw:Lay} {cs pre post:List Int} {lo hi:Int} {S:St} {Ma Mw:Nat} {one other c0 c1 c2:Int}
  (adv:List Bool) (ha:La.ks.map (·.2)=adv) (hw:Lw.ks.map (·.2)=adv) (hS:S.text.length≤50) (hMa:Ma+8008≤40000) (hMw:Mw+8008≤40000) (hdis:∀ x∈La.all,x∉Lw.all)
  (Ba:Buf La [] [] S Ma H) (Bw:Buf Lw pre post S Mw H) (hlo:lo=1+(pre.length:Int)) (hpre:cs.take pre.length=pre) (hhi:1≤hi) (hpost:cs.drop (hi - 1).toNat=post) (hcs:cs.length≤60)
  (q:∀ H',Q (.bool true) H') :
  wSs g 24 (m_law.drop 14) (LawL x0 x1 x2 (.lst (vints cs)) x4 (.int lo) (.int hi) x7 x8 (.int one) (.int other) (.lst [.int c0,.int c1,.int c2]) (.ref La.b) (.lst (refs La.ks)) (.ref Lw.b) (.lst (refs Lw.ks))) (fun u0 H=>Q .none H) Q X H:=by
 refine el_EEA (d_law_outcome D adv S hS one other c0 c1 c2) fun us S' hu h=>?_
 have hA:=h La [] [] Ma H
 simp only [List.length_nil,Int.natCast_zero,Int.add_zero] at hA
 have eo:one+lo - 1=one+(pre.length:Int):=ln 0x8417c1f2c960110a12900102c96011200112 rfl hlo
 have ep:other+lo - 1=other+(pre.length:Int):=ln 0x8417c1f2c960120a12910202c960100a1291000113 rfl eo
 refine hA _ _ ha hMa Ba fun H1 M1 hm1 Ba1 F1=>?_
 have Bw1:Buf Lw pre post S Mw H1:=Bw.fr fun x hx=>F1 x fun e=>hdis x e hx
 conv=>whnf
 rw [eo,ep]
 refine h Lw pre post Mw H1 _ _ hw hMw Bw1 fun H2 M2 hm2 Bw2 F2=>?_
 have Ba2:Buf La [] [] S' M1 H2:=Ba1.fr fun x hx=>F2 x (hdis x hx)
 refine hu _ (brF ?_)
 have Ba3:BufR La S'.text 1 (1+S'.text.length) (S'.pt+0) (S'.ps.map fun p=>p+0) M1 H2:=by
  have:=Ba2
  unfold Buf at this
  simpa using this
 have e5:=law_e5 D (Q:=Q) (X:=X) (x0:=x0) (x1:=x1) (x2:=x2) (x3:=.lst (vints cs)) (x4:=x4) (x6:=.int hi) (x7:=x7) (x8:=x8) (x9:=.int one) (x10:=.int other) (x11:=.lst [.int c0,.int c1,.int c2]) (x16:=.tup us) (x17:=.lst (vints (pre++S'.text++post))) hlo Ba3 Bw2 q
 have e4:=law_e4 D (ln 0x7c1841f2ca12910902209601202c960100a1291000113 rfl ep) Ba3 Bw2 e5
 have e3:=law_e3 D (ln 0x7c1841f2c109601122c960100a1291000112 rfl ep) (ln 0x7c1841f2c96111096119601122c960100a1291000122 rfl ep) Ba3 Bw2 e4
 exact law_e2 D rfl hlo hpre hhi hpost hcs Ba3 Bw2 e3
end
end Mine
namespace Mine
theorem BufR.to2 {L:Lay} {f1 f2:List Int} {bg1 bg2 zv1 zv2 pt1 pt2:Int} {ps1 ps2:List Int} {M:Nat} {H:Hp} (S:BufR L f1 bg1 zv1 pt1 ps1 M H) (e1:f1=f2) (e0:bg1=bg2) (e2:zv1=zv2) (e3:pt1=pt2) (e4:ps1=ps2):BufR L f2 bg2 zv2 pt2 ps2 M H:=by
 subst e1 e0 e2 e3 e4;exact S
noncomputable abbrev LawL1 (script deck signs codes size low high part places one other choice:V):Loc:=
 [some script,some deck,some signs,some codes,some size,some low,some high,some part,some places,some one,some other,some choice,none,none,none,none,none,none,none,none,none,none,none,none]
section
variable {g:G} (D:Defs g)
include D
variable {H:Hp} {Q:QV} {X:QX} {x0 x1 x2 x4:V}
theorem law_b13 {La Lw:Lay} {cs part pre post:List Int} {lo hi:Int} {Ma Mw:Nat} {one other c0 c1 c2 p0 p1 p2:Int} {pta ptw:Int} (hMa:Ma≤30000) (hMw:Mw≤30000)
  (adv:List Bool) (ha:La.ks.map (·.2)=adv) (hw:Lw.ks.map (·.2)=adv) (hS:part.length≤50) (hdis:∀ x∈La.all,x∉Lw.all)
  (Ba:BufR La part 1 (1+part.length) pta [p0,p1,p2] Ma H) (Bw:BufR Lw cs lo hi ptw [p0+lo - 1,p1+lo - 1,p2+lo - 1] Mw H) (hlo:lo=1+(pre.length:Int)) (hsplit:cs=pre++part++post) (hhi:hi=lo+part.length) (hcs:cs.length≤60)
  (q:∀ H',Q (.bool true) H') :
  wSs g 24 (m_law.drop 13) (LawL x0 x1 x2 (.lst (vints cs)) x4 (.int lo) (.int hi) (.lst (vints part)) (.lst (vints [p0,p1,p2])) (.int one) (.int other) (.lst [.int c0,.int c1,.int c2]) (.ref La.b) (.lst (refs La.ks)) (.ref Lw.b) (.lst (refs Lw.ks))) (fun u0 H=>Q .none H) Q X H:=by
 refine el_EE Ba.ib fun tka cka hba=>?_
 refine el_EE Bw.ib fun tkw ckw hbw=>?_
 have hne:Lw.b≠La.b:=fun e=>hdis _ La.b_mem (e▸Lw.b_mem)
 have Ba1:BufR La part 1 (1+part.length) p2 [p0,p1,p2] Ma (put H La.b (.inst cBuffer (bufF La 1 (1+part.length) p2 tka cka))):=Ba.putB (tk:=tka) (ck:=cka) rfl
 have Bw1:BufR Lw cs lo hi ptw [p0+lo - 1,p1+lo - 1,p2+lo - 1] Mw (put H La.b (.inst cBuffer (bufF La 1 (1+part.length) p2 tka cka))):=Bw.fr fun x hx=>put_ne fun e=>hdis _ La.b_mem (e▸hx)
 have Bw2:BufR Lw cs lo hi (p2+lo - 1) [p0+lo - 1,p1+lo - 1,p2+lo - 1] Mw (put (put H La.b (.inst cBuffer (bufF La 1 (1+part.length) p2 tka cka))) Lw.b (.inst cBuffer (bufF Lw lo hi (p2+lo - 1) tkw ckw))):=Bw1.putB (tk:=tkw) (ck:=ckw) rfl
 have Ba2:=Ba1.fr (H':=put (put H La.b (.inst cBuffer (bufF La 1 (1+part.length) p2 tka cka))) Lw.b (.inst cBuffer (bufF Lw lo hi (p2+lo - 1) tkw ckw))) fun x hx=>put_ne fun e=>hdis x hx (e▸Lw.b_mem)
 have BA:Buf La [] [] ⟨part,p2,[p0,p1,p2]⟩ Ma (put (put H La.b (.inst cBuffer (bufF La 1 (1+part.length) p2 tka cka))) Lw.b (.inst cBuffer (bufF Lw lo hi (p2+lo - 1) tkw ckw))):=by
  refine Ba2.to2 ?_ ?_ ?_ ?_ ?_<;>simp
 have BW:Buf Lw pre post ⟨part,p2,[p0,p1,p2]⟩ Mw (put (put H La.b (.inst cBuffer (bufF La 1 (1+part.length) p2 tka cka))) Lw.b (.inst cBuffer (bufF Lw lo hi (p2+lo - 1) tkw ckw))):=by
  refine Bw2.to2 hsplit hlo ?_ ?_ ?_
  ·show hi=1+(pre.length:Int)+(part.length:Int);exact ln 0x86105f7c1f2c9601961112002c961112102c96011000122 rfl hlo hhi
  ·show p2+lo - 1=p2+(pre.length:Int);exact ln 0x8417c1f2c960110a12900102c96011200112 rfl hlo
  ·show [p0+lo - 1,p1+lo - 1,p2+lo - 1]=[p0+(pre.length:Int),p1+(pre.length:Int),p2+(pre.length:Int)]
   rw [show p0+lo - 1=p0+(pre.length:Int) by exact ln 0x8417c1f2c960110a12900102c96011200112 rfl hlo,show p1+lo - 1=p1+(pre.length:Int) by exact ln 0x8417c1f2c960110a12900102c96011200112 rfl hlo,show p2+lo - 1=p2+(pre.length:Int) by exact ln 0x8417c1f2c960110a12900102c96011200112 rfl hlo]
 have e1:=law_e1 D (Q:=Q) (X:=X) (x0:=x0) (x1:=x1) (x2:=x2) (x4:=x4) (x7:=.lst (vints part)) (x8:=.lst (vints [p0,p1,p2])) (one:=one) (other:=other) (c0:=c0) (c1:=c1) (c2:=c2) (cs:=cs) (lo:=lo) (hi:=hi) adv ha hw hS (ln 0x41f1b00009c403900001f483011b00007530301110 rfl hMa) (ln 0x41f1b00009c403900001f483011b00007530301110 rfl hMw) hdis BA BW hlo
  (by rw [hsplit,List.append_assoc,List.take_left' rfl]) (ln 0x1f7c1f1c00122c961112102c96011000122 rfl hlo hhi) (by rw [hsplit,show (hi - 1).toNat=(pre++part).length by simp;exact ln 0x86186105f7df7c1f2b92131112c963112102c962110002b01912112c00601142 rfl hlo hhi (Nat.sub_add_cancel (ln 0x7df7c1f1b01122c962112102c961110002c00601132 rfl hlo hhi (Int.toNat_of_nonneg (ln 0x1f7c1f1c00022c961112102c96011000122 rfl hlo hhi)))) (Int.toNat_of_nonneg (ln 0x1f7c1f1c00022c961112102c96011000122 rfl hlo hhi)),List.drop_left' rfl]) hcs q
 refine ix (k:=2) rfl ?_
 refine ix (k:=2) rfl ?_
 apply sa_ hba
 apply sa_ (by rw [put_ne hne];exact hbw)
 exact e1
theorem law_b10 {cs part pre post:List Int} {lo hi:Int} {one other c0 c1 c2 p0 p1 p2:Int} (hlo:lo=1+(pre.length:Int)) (hsplit:cs=pre++part++post) (hhi:hi=lo+part.length) (hcs:cs.length≤50)
  (h0:1≤p0∧p0≤(part.length:Int)+1) (h1:1≤p1∧p1≤(part.length:Int)+1) (h2:1≤p2∧p2≤(part.length:Int)+1) (q:∀ H',Q (.bool true) H') :
  wSs g 24 (m_law.drop 10) (LawL1 x0 x1 x2 (.lst (vints cs)) x4 (.int lo) (.int hi) (.lst (vints part)) (.lst (vints [p0,p1,p2])) (.int one) (.int other) (.lst [.int c0,.int c1,.int c2])) (fun u0 H=>Q .none H) Q X H:=by
 have hlen:cs.length=pre.length+part.length+post.length:=by rw [hsplit];simp;exact ln 0x41f2b9219110199211101130 rfl
 refine (c_law_buffer D (cs:=part) (ps:=[p0,p1,p2]) (ln 0x1f041f1b0000003c3211b000000323012b9319211101140 rfl hcs hlen) (by exact Nat.le_of_ble_eq_true rfl) (fun p hp=>?_) fun La H1 pta hadvA hfrA Ba FA=>?_).up (by exact Nat.le_of_ble_eq_true rfl)
 ·simp only [List.mem_cons,List.not_mem_nil,or_false] at hp
  rcases hp with rfl | rfl | rfl<;>assumption
 intro a ha
 refine comp_pure (fun v=>match v with | .int p=>.int (p+lo - 1) | v=>v) (vints [p0,p1,p2]) [] (fun x hx Q' H' q'=>?_) (by exact Nat.le_of_ble_eq_true rfl) (.inr ⟨_,put_at,?_⟩)
 ·refine el_EA (List.mem_map.mp hx) fun p hp rf2=>?_;subst rf2
  exact q'
 rw [del_put ha]
 refine (show CallW g 23 828 [.lst (vints cs),.lst (vints [p0+lo - 1,p1+lo - 1,p2+lo - 1])] _ _ H1 from ?_)
 refine (c_law_buffer D (cs:=cs) (ps:=[p0+lo - 1,p1+lo - 1,p2+lo - 1]) (ln 0x41f1b0000003c3011b00000032301110 rfl hcs) (by exact Nat.le_of_ble_eq_true rfl) (fun p hp=>?_) fun Lw H2 ptw hadvW hfrW Bw FW=>?_).up (by exact Nat.le_of_ble_eq_true rfl)
 ·simp only [List.mem_cons,List.not_mem_nil,or_false] at hp
  have key:∀ p,1≤p∧p≤(part.length:Int)+1→1≤p+lo - 1∧p+lo - 1≤(cs.length:Int)+1:=fun p h=>⟨by exact ln 0x17c1f1ca1291000122c960112101c0012112 rfl hlo h.1,by exact ln 0x5f841f1c912611a12910002c962112102b93190121111c91260100142 rfl hlo hlen h.2⟩
  rcases hp with rfl | rfl | rfl
  ·exact key _ h0
  ·exact key _ h1
  ·exact key _ h2
 have hdis:∀ x∈La.all,x∉Lw.all:=fun x hx hx'=>Ba.live x hx (hfrW x hx')
 have Ba2:=Ba.fr (H':=H2) fun x hx=>FW x (hdis x hx)
 refine (c_narrow D Bw (lo:=lo) (hi:=hi) (ln 0x7c1f1c00122c96011200111 rfl hlo) (ln 0x7c1f1c00102c96011000112 rfl hhi) (ln 0x7e1841f1c912601002c961112102c962110002b9319211101142 rfl hlo hhi hlen) fun H3 ptw' Bw3 F3=>?_).up (by exact Nat.le_of_ble_eq_true rfl)
 have Ba3:=Ba2.fr (H':=H3) fun x hx=>F3 x (hdis x hx)
 exact law_b13 D (by exact Nat.le_of_ble_eq_true rfl) (by exact Nat.le_of_ble_eq_true rfl) _ hadvA hadvW (ln 0x1f041f1b000000323211b000000323012b9319211101140 rfl hcs hlen) hdis Ba3 Bw3 hlo hsplit hhi (ln 0x41f1b0000003c3011b00000032301110 rfl hcs) q
theorem comp_draw {el:V→QV→Hp→Prop} {a dA:Addr} {N:Hp→Prop} (good:Int→Prop) (hne:a≠dA)
  (hel:∀ (v:V) (ds:List Int) (H:Hp) (Q:QV),(∀ d∈ds,0≤d)→H dA=some (.list (vints ds))→(∀ c ds',good c→(∀ d∈ds',0≤d)→Q (.int c) (put H dA (.list (vints ds'))))→el v Q H) :
  ∀ (xs:List V) (ds acc:List Int),(∀ d∈ds,0≤d)→acc.length+xs.length≤1000→(∀ ds' cs:List Int,(∀ d∈ds',0≤d)→cs.length=xs.length→(∀ c∈cs,good c)→N (put (put H dA (.list (vints ds'))) a (.list (vints (acc++cs))))) →
   compW el a xs N (put (put H dA (.list (vints ds))) a (.list (vints acc))):=by
 intro xs
 induction xs with
 | nil=>
  intro ds acc hd _ q
  have:=q ds [] hd rfl (fun u0 h=>nomatch h)
  rw [List.append_nil] at this
  exact this
 | cons x xs ih=>
  intro ds acc hd hl q
  simp only [List.length_cons] at hl
  refine hel x ds _ _ hd (by exact (put_ne (Ne.symm (by assumption))).trans put_at) fun c ds' hc hd'=>⟨_,by exact (put_ne (by assumption)).trans put_at,by rw [vints_len];exact ln 0x41f0b144011b000003e8399121101120 rfl hl,?_⟩
  rw [put2 (Ne.symm hne),put_put,show vints acc++[V.int c]=vints (acc++[c]) by simp [vints]]
  refine ih ds' (acc++[c]) hd' (by simp;exact ln 0x41f1b000003e83911912011b000003e8399121101120 rfl hl) fun ds'' cs hd'' hcl hg=>?_
  have:=q ds'' (c::cs) hd'' (by simp [hcl]) (fun c' h'=>by
   rcases List.mem_cons.mp h' with rfl | h'
   ·exact hc
   ·exact hg c' h')
  simpa using this
end
end Mine
namespace Mine
theorem wSs_asg {g:G} {n i:Nat} {e:E} {r:List S} {m:Loc} {N:QN} {R:QV} {X:QX} {H:Hp} (w:wE g n e m (fun v H1=>wSs g n r (m.set i (some v)) N R X H1) X H):wSs g n (.asg i e::r) m N R X H:=w
theorem wE_len {g:G} {n j:Nat} {m:Loc} {xs:List V} {Q:QV} {X:QX} {H:Hp} (h:m[j]?=some (some (.lst xs))) (q:Q (.int (xs.length:Int)) H):wE g n (.bcall .len (.cons (.var j) .nil)) m Q X H:=by
 show (match m[j]? with
  | some (some v)=>bltW .len [v] Q H
  | _=>False)
 rw [h];exact q
theorem add_int {i j:Int} {Q:QV} {H:Hp} (q:Q (.int (i+j)) H):binW .add (.int i) (.int j) Q H:=q
noncomputable abbrev LawL0 (script deck signs:V) (codes size low high part places:Option V):Loc:=
 [some script,some deck,some signs,codes,size,low,high,part,places,none,none,none,none,none,none,none,none,none,none,none,none,none,none,none]
section
variable {g:G} (D:Defs g)
include D
variable {H:Hp} {Q:QV} {X:QX} {x0 x2 x4:V} {dA:Addr} {ds:List Int}
theorem law_b9 {cs part pre post:List Int} {lo hi:Int} {one other c0 c1 c2 p0 p1 p2:Int} (hlo:lo=1+(pre.length:Int)) (hsplit:cs=pre++part++post) (hhi:hi=lo+part.length) (hcs:cs.length≤50)
  (h0:1≤p0∧p0≤(part.length:Int)+1) (h1:1≤p1∧p1≤(part.length:Int)+1) (h2:1≤p2∧p2≤(part.length:Int)+1) (hd:∀ d∈ds,0≤d) (q:∀ H',Q (.bool true) H') :
  wSs g 24 (m_law.drop 9) (LawL1 x0 (.ref dA) x2 (.lst (vints cs)) x4 (.int lo) (.int hi) (.lst (vints part)) (.lst (vints [p0,p1,p2])) (.int one) (.int other) (.lst [.int c0,.int c1,.int c2])) (fun u0 H=>Q .none H) Q X (put H dA (.list (vints ds))):=by
 refine (c_law_draw D (many:=8) (by decide) hd put_at fun x ds' u0 u0 u0=>?_).up (by decide)
 refine br (fun u0=>?_) fun u0=>?_
 ·exact law_b10 D hlo hsplit hhi hcs h0 h1 h2 q
 ·exact law_b10 D hlo hsplit hhi hcs h0 h1 h2 q
theorem law_b8 {cs part pre post:List Int} {lo hi:Int} {p0 p1 p2:Int} (hlo:lo=1+(pre.length:Int)) (hsplit:cs=pre++part++post) (hhi:hi=lo+part.length) (hcs:cs.length≤50)
  (h0:1≤p0∧p0≤(part.length:Int)+1) (h1:1≤p1∧p1≤(part.length:Int)+1) (h2:1≤p2∧p2≤(part.length:Int)+1) (hd:∀ d∈ds,0≤d) (q:∀ H',Q (.bool true) H') :
  wSs g 24 (m_law.drop 8) (LawL0 x0 (.ref dA) x2 (some (.lst (vints cs))) (some x4) (some (.int lo)) (some (.int hi)) (some (.lst (vints part))) (some (.lst (vints [p0,p1,p2])))) (fun u0 H=>Q .none H) Q X (put H dA (.list (vints ds))):=by
 refine ix (k:=0) rfl ?_
 refine ix (k:=1) rfl ?_
 refine (c_law_draw D (many:=99) (by decide) hd put_at fun c0 d1 u0 u0 hd1=>?_).up (by exact Nat.succ_pos _)
 refine (c_law_draw D (many:=7) (by decide) hd1 put_at fun c1 d2 u0 u0 hd2=>?_).up (by exact Nat.succ_pos _)
 refine (c_law_draw D (many:=7) (by decide) hd2 put_at fun c2 d3 u0 u0 hd3=>?_).up (by exact Nat.succ_pos _)
 refine ⟨by exact Nat.le_of_ble_eq_true rfl,.inl ?_⟩
 rw [put_put,put_put,put_put]
 exact law_b9 D hlo hsplit hhi hcs h0 h1 h2 hd3 q
theorem law_b6 {cs:List Int} {lo hi:Int} (hl:1≤lo) (hlh:lo≤hi) (hh:hi≤(cs.length:Int)+1) (hcs:cs.length≤50) (hd:∀ d∈ds,0≤d) (q:∀ H',Q (.bool true) H') :
  wSs g 24 (m_law.drop 6) (LawL0 x0 (.ref dA) x2 (some (.lst (vints cs))) (some x4) (some (.int lo)) (some (.int hi)) none none) (fun u0 H=>Q .none H) Q X (put H dA (.list (vints ds))):=by
 obtain ⟨s,hs⟩:∃ s:Nat,lo - 1=s:=⟨(lo - 1).toNat,ln 0x7c1841f2c601a12002ca1200601111 rfl (Int.toNat_of_nonneg (ln 0x41f1ca1200021c0012101 rfl hl))⟩
 obtain ⟨e,he⟩:∃ e:Nat,hi - 1=e:=⟨(hi - 1).toNat,ln 0x7c1841f2c601a12002ca1200601111 rfl (Int.toNat_of_nonneg (ln 0x1041f1ca1210021c00121c1000102 rfl hl hlh))⟩
 have hse:s≤e:=ln 0x85f041f1b01111c00102c611a12102c601a1200122 rfl hlh hs he
 have hel:e≤cs.length:=ln 0x1f041f1b11011c912611002c601a1200121 rfl hh he
 have hpl:((cs.drop s).take (e - s)).length=e - s:=by simp;exact ln 0x8417c1f2b11012b1101120 rfl (Nat.min_eq_left (ln 0x7e1041f1b01311b21412b41911312b2191101150 rfl hel (Nat.sub_add_cancel hse) (Nat.sub_add_cancel (ln 0x1041f1b11211b01211b1101130 rfl hse hel))))
 have hsplit:cs=cs.take s++(cs.drop s).take (e - s)++cs.drop e:=by
  have h1:(cs.drop s).drop (e - s)=cs.drop e:=by rw [List.drop_drop];congr 1;exact ln 0x8417c1f2b21901112b2191101130 rfl (Nat.sub_add_cancel hse)
  rw [List.append_assoc,← h1,List.take_append_drop,List.take_append_drop]
 conv=>whnf
 rw [vcut (i:=s) (j:=e) hs he]
 refine ⟨by rw [vints_len];exact ln 0x21841041f1b184311b000000323411b41212b01312b2191101150 rfl hcs hel hpl (Nat.sub_add_cancel hse),.inl ?_⟩
 refine (show wSs g 24 (m_law.drop 7) (LawL0 x0 (.ref dA) x2 (some (.lst (vints cs))) (some x4) (some (.int lo)) (some (.int hi)) (some (.lst (vints ((cs.drop s).take (e - s))))) none) (fun u0 H=>Q .none H) Q X (put H dA (.list (vints ds))) from ?_)
 refine ⟨by exact Nat.le_of_ble_eq_true rfl,fun a ha=>?_⟩
 obtain ⟨had,haH⟩:=put_none ha
 rw [show vints (rangeL 0 3)=vr 0 3 from vr_of 3]
 refine comp_draw D (fun p=>1≤p∧p≤(((cs.drop s).take (e - s)).length:Int)+1) had (fun v d1 H1 Q1 hd1 hA k=>?_) (vr 0 3) ds [] hd (by exact Nat.le_of_ble_eq_true rfl) fun d2 ps hd2 hps hg=>?_
 ·refine (c_law_draw D (by rw [vints_len];exact ln 0x1f0c91260102110 rfl) hd1 hA fun x d3 hx1 hx2 hd3=>?_).up (by exact Nat.succ_pos _)
  rw [vints_len] at hx2
  exact k (1+x) d3 ⟨ln 0x41f1c90012121c0002101 rfl hx1,ln 0x41f1c912601900120c91260100111 rfl hx2⟩ hd3
 ·refine .inr ⟨_,put_at,?_⟩
  rw [del_put (by rw [put_ne had];exact haH),List.nil_append]
  have hps3:ps.length=3:=hps
  match ps,hps3,hg with
  | [p0,p1,p2],_,hg=>
   refine law_b8 D (pre:=cs.take s) (post:=cs.drop e) ?_ hsplit ?_ hcs (hg p0 (by exact .head _)) (hg p1 (by exact .tail _ (.head _))) (hg p2 (by exact .tail _ (.tail _ (.head _)))) hd2 q
   ·rw [List.length_take];exact ln 0x7e10617c1f2c960112002c611a12002b1101121 rfl hs (Nat.min_eq_left (ln 0x1041f1b11211b01211b1101130 rfl hse hel))
   ·rw [hpl];exact ln 0x7e17c185f841f2c960110002c611a12102c621a12002b2191101132 rfl hs he (Nat.sub_add_cancel hse)
theorem law_b3 {cs:List Int} (hcs:cs.length≤50) (hd:∀ d∈ds,0≤d) (q:∀ H',Q (.bool true) H') :
  wSs g 24 (m_law.drop 3) (LawL0 x0 (.ref dA) x2 (some (.lst (vints cs))) none none none none none) (fun u0 H=>Q .none H) Q X (put H dA (.list (vints ds))):=by
 refine wSs_asg (wE_len rfl ?_)
 rw [vints_len]
 refine (show wSs g 24 (m_law.drop 4) (LawL0 x0 (.ref dA) x2 (some (.lst (vints cs))) (some (.int (cs.length:Int))) none none none none) (fun u0 H=>Q .none H) Q X (put H dA (.list (vints ds))) from ?_)
 refine (c_law_draw D (ln 0x1f0c91260102110 rfl) hd put_at fun x d1 hx1 hx2 hd1=>?_).up (by decide)
 refine add_int ?_
 rw [put_put]
 refine (show wSs g 24 (m_law.drop 5) (LawL0 x0 (.ref dA) x2 (some (.lst (vints cs))) (some (.int (cs.length:Int))) (some (.int (1+x))) none none none) (fun u0 H=>Q .none H) Q X (put H dA (.list (vints d1))) from ?_)
 refine (c_law_draw D (ln 0x41f0ca90012922601020c91260100111 rfl hx2) hd1 put_at fun y d2 hy1 hy2 hd2=>?_).up (by decide)
 refine add_int ?_
 rw [put_put]
 exact law_b6 D (ln 0x41f1c90012121c0002101 rfl hx1) (ln 0x41f1c90091012910121c0002102 rfl hy1) (ln 0x41f1c912601900910120ca9101292260100112 rfl hy2) hcs hd2 q
theorem law_b2 (hd:∀ d∈ds,0≤d) (q:∀ H',Q (.bool true) H') :
  wSs g 24 (m_law.drop 2) (LawL0 x0 (.ref dA) (.lst (vints [97,10,98,32,49,10,66])) none none none none none none) (fun u0 H=>Q .none H) Q X (put H dA (.list (vints ds))):=by
 refine (c_law_draw D (many:=20) (by decide) hd put_at fun x d1 hx1 hx2 hd1=>?_).up (by exact Nat.succ_pos _)
 obtain ⟨n,hn⟩:∃ n:Nat,4+x=n:=⟨(4+x).toNat,ln 0x7c1841f2c601900422c90042601111 rfl (Int.toNat_of_nonneg (ln 0x41f1c90042021c0002101 rfl hx1))⟩
 rw [put_put]
 conv=>whnf
 rw [hn]
 refine ⟨ln 0x85f041f0b3c4010c000000143002c611900422c611601121 rfl hx2 hn (Int.natAbs_of_nonneg (ln 0x1f1c60102110 rfl)),fun a ha=>?_⟩
 obtain ⟨had,haH⟩:=put_none ha
 rw [vr_of n]
 refine comp_draw D (fun u0=>True) had (fun v d2 H1 Q1 hd2 hA k=>?_) (vr 0 n) d1 [] hd1 (by simp [vr];exact ln 0x1f041f1b000003e83010c000000143002c60190042111 rfl hx2 hn) fun d2 cs hd2 hcs u0=>?_
 ·refine (c_law_draw D (by rw [vints_len];decide) hd2 hA fun y d3 hy1 hy2 hd3=>?_).up (by exact Nat.succ_pos _)
  rw [vints_len] at hy2
  obtain ⟨j,hj⟩:∃ j:Nat,y=j:=⟨y.toNat,ln 0x7c1841f2c601002c00601111 rfl (Int.toNat_of_nonneg hy1)⟩
  obtain ⟨c,hc⟩:=get_int (cs:=[97,10,98,32,49,10,66]) (k:=j) (by simp at hy2 ⊢;exact ln 0x17c1f0b72012c601000c7200111 rfl hj hy2)
  rw [hj]
  exact ix (vints_get hc) (k c d3 trivial hd3)
 ·refine .inr ⟨_,put_at,?_⟩
  rw [del_put (by rw [put_ne had];exact haH),List.nil_append]
  refine law_b3 D ?_ hd2 q
  rw [hcs];simp [vr];exact ln 0x1f041f1b000000323010c000000143002c60190042111 rfl hx2 hn
theorem c_law {fa:Addr} (DL:HasDef g fa m_law 1 [] 24) (zs:List Int) (hz:zs.length≤63) {H:Hp} {Q:QV} {X:QX} (q:∀ H',Q (.bool true) H'):CallC g 25 fa [.lst (vints zs)] Q X H:=by
 refine DL 24 _ _ _ _ rfl ?_
 refine el_EA (vints_cut zs none (some 60)) fun ds e hl=>?_
 conv=>whnf
 rw [e]
 refine ⟨by rw [vints_len];exact ln 0x1041f1b184011b0000003f3111b1101120 rfl hz hl,.inl ?_⟩
 conv=>whnf
 intro a ha
 refine comp_pure (fun v=>match v with | .int c=>.int (if c < 0 then -c else c) | v=>v) (vints ds) [] (fun x hx Q' H' q'=>?_) (by rw [vints_len];simp;exact ln 0x1041f0b001000003011b0000003f3111b1101120 rfl hz hl) (.inl ?_)
 ·refine el_EA (List.mem_map.mp hx) fun c hc rf2=>?_;subst rf2
  exact q'
 have e2:[]++(vints ds).map (fun v=>match v with | .int c=>.int (if c < 0 then -c else c) | v=>v)=vints (ds.map fun c=>if c < 0 then -c else c):=by
  simp [vints,Function.comp_def]
 rw [e2]
 conv=>whnf
 refine ⟨by decide,.inl ?_⟩
 refine law_b2 D (fun d hd=>?_) q
 refine el_EA (List.mem_map.mp hd) fun c u0 rf2=>?_;subst rf2
 exact le_if (fun h=>Int.neg_nonneg_of_nonpos (Int.le_of_lt h)) fun h=>Int.not_lt.mp h
end
end Mine
namespace Mine
noncomputable def fdOf (s:Stmt):Arguments × List Stmt × Scope:=match s with
 | .FunctionDef _ a b _ _ _ s _ _ _=>(a,b,s)
 | _=>(default,[],default)
noncomputable def clsOf (s:Stmt):List Stmt:=match s with
 | .ClassDef _ _ _ b _ _ _ _ _ _ _=>b
 | _=>[]
noncomputable def fdAt (i:Nat):Arguments × List Stmt × Scope:=fdOf (gAt default PySem.Challenge.pw_pq0300_01.main.body i)
noncomputable def fdR (r:Row):Arguments × List Stmt × Scope:=match r.j with
 | 0=>fdAt r.i
 | j+1=>fdOf (gAt default (clsOf (gAt default PySem.Challenge.pw_pq0300_01.main.body r.i)) j)
noncomputable def bodyAt (i:Nat):List Stmt:=(fdAt i).2.1
noncomputable def scAt (i:Nat):Scope:=(fdAt i).2.2
noncomputable def parAt (i:Nat):Arguments:=(fdAt i).1
noncomputable def bodyR (r:Row):List Stmt:=(fdR r).2.1
noncomputable def scR (r:Row):Scope:=(fdR r).2.2
noncomputable def parR (r:Row):Arguments:=(fdR r).1
section
variable {g:G}
theorem snd_downcased (G:GlobOk g) (LK:ExcK g):SndSs g nm_downcased (bodyAt 30) m_downcased:=
 (sndSs_cons (sndS_ret (snd_compL G (compK_of (by rfl) rfl) (takeL_one rfl) (snd_call G (List.mem_of_getElem? (i:=2) rfl) rfl (sndEs_cons (snd_var rfl rfl) sndEs_nil fun u0=>rfl)) (snd_var rfl rfl) (fun u0 u0 u0 u0 u0 u0 u0 u0 u0 h=>wpAny_of_eq rfl h) (fun u0 u0=>rfl))) sndSs_nil)
theorem snd_ordered (G:GlobOk g) (LK:ExcK g):SndSs g nm_ordered (bodyAt 44) m_ordered:=
 (sndSs_cons (sndS_ret (snd_sortedK G (List.mem_of_getElem? (i:=2) rfl) (List.mem_of_getElem? (i:=4) rfl) (snd_var rfl rfl) (List.mem_of_getElem? (i:=3) rfl) rfl (snd_var rfl rfl) (fun u0=>rfl))) sndSs_nil)
theorem snd_narrow (G:GlobOk g) (LK:ExcK g):SndSs g nm_narrow (bodyAt 83) m_narrow:=
 (sndSs_cons (sndS_asgX2 rfl rfl (sndEs_cons (snd_bcall G (f:=.min) (List.mem_of_getElem? (i:=5) rfl) (List.mem_of_getElem? (i:=1) rfl) (sndEs_cons (snd_var rfl rfl) (sndEs_cons (snd_var rfl rfl) sndEs_nil fun u0=>rfl) fun u0=>rfl)) (sndEs_cons (snd_bcall G (f:=.max) (List.mem_of_getElem? (i:=6) rfl) (List.mem_of_getElem? (i:=2) rfl) (sndEs_cons (snd_var rfl rfl) (sndEs_cons (snd_var rfl rfl) sndEs_nil fun u0=>rfl) fun u0=>rfl)) sndEs_nil fun u0=>rfl) fun u0=>rfl) rfl rfl (by intro e he;simp only [List.mem_cons,List.not_mem_nil,or_false] at he;rcases he with rfl | rfl<;>intro t p h<;>trivial) rfl rfl fun u0=>rfl) (sndSs_cons (sndS_ifs (sndB_or (sndB_cmp G (snd_var rfl rfl) snd_int rfl) (sndB_cmp G (snd_var rfl rfl) (snd_bin G (op:=.add) (snd_meth G (snd_var rfl rfl) rfl sndEs_nil _ fun u0=>rfl) snd_int) rfl)) (sndSs_cons (sndS_raise G LK (j:=73) (List.mem_of_getElem? (i:=7) rfl) rfl (sndEs_cons (snd_var rfl rfl) (sndEs_cons (snd_var rfl rfl) sndEs_nil fun u0=>rfl) fun u0=>rfl)) sndSs_nil) sndSs_nil) (sndSs_cons (sndS_asgAA G rfl rfl (snd_var rfl rfl) (snd_var rfl rfl) (snd_var rfl rfl) (snd_var rfl rfl) (fun u0=>rfl) (fun u0=>rfl) fun u0 V=>swappedAA V (by intro e he;simp only [List.mem_cons,List.not_mem_nil,or_false] at he;rcases he with rfl | rfl<;>intro t p h<;>trivial)) (sndSs_cons (sndS_ex (snd_meth G (snd_var rfl rfl) rfl (sndEs_cons (snd_attr G (snd_var rfl rfl) rfl fun u0=>rfl) sndEs_nil fun u0=>rfl) _ fun u0=>rfl) fun u0=>rfl) sndSs_nil))))
theorem snd__law_buffer (G:GlobOk g) (LK:ExcK g):SndSs g nm__law_buffer (bodyAt 88) m__law_buffer:=
 (sndSs_cons (sndS_asgX2 rfl rfl (sndEs_cons (snd_call G (List.mem_of_getElem? (i:=6) rfl) rfl (sndEs_cons snd_int (sndEs_cons snd_str sndEs_nil fun u0=>rfl) fun u0=>rfl)) (sndEs_cons (snd_lst G sndEs_nil) sndEs_nil fun u0=>rfl) fun u0=>rfl) rfl rfl (by intro e he;simp only [List.mem_cons,List.not_mem_nil,or_false] at he;rcases he with rfl | rfl<;>intro t p h<;>trivial) rfl rfl fun u0=>rfl) (sndSs_cons (sndS_ex (snd_call G (List.mem_of_getElem? (i:=7) rfl) rfl (sndEs_cons (snd_var rfl rfl) (sndEs_cons (snd_var rfl rfl) sndEs_nil fun u0=>rfl) fun u0=>rfl)) fun u0=>rfl) (sndSs_cons (sndS_forE G (List.mem_of_getElem? (i:=8) rfl) (List.mem_of_getElem? (i:=7) rfl) rfl (.inl rfl) rfl (.inl rfl) (snd_var rfl rfl) (sndSs_cons (sndS_ex (snd_append G (snd_var rfl rfl) (snd_call G (List.mem_of_getElem? (i:=9) rfl) rfl (sndEs_cons (snd_bin G (op:=.add) (snd_var rfl rfl) snd_int) (sndEs_cons (snd_cmp G (snd_bin G (op:=.mod) (snd_var rfl rfl) snd_int) snd_int rfl) sndEs_nil fun u0=>rfl) fun u0=>rfl)) (fun u0=>rfl) _ fun u0=>rfl) fun u0=>rfl) (sndSs_cons (sndS_ex (snd_call G (List.mem_of_getElem? (i:=10) rfl) rfl (sndEs_cons (snd_idx G (snd_var rfl rfl) snd_neg fun u0 u0=>rfl) (sndEs_cons (snd_var rfl rfl) (sndEs_cons (snd_var rfl rfl) sndEs_nil fun u0=>rfl) fun u0=>rfl) fun u0=>rfl)) fun u0=>rfl) sndSs_nil)) (fun u0=>rfl) (fun u0 u0=>rfl)) (sndSs_cons (sndS_ret (snd_tup (sndEs_cons (snd_var rfl rfl) (sndEs_cons (snd_frz rfl rfl) sndEs_nil fun u0=>rfl) fun u0=>rfl))) sndSs_nil))))
theorem snd_without_doubles (G:GlobOk g) (LK:ExcK g):SndSs g nm_without_doubles (bodyAt 53) m_without_doubles:=
 (sndSs_cons (sndS_asg rfl (.inl rfl) (snd_call G (List.mem_of_getElem? (i:=12) rfl) rfl (sndEs_cons (snd_var rfl rfl) sndEs_nil fun u0=>rfl)) fun u0=>rfl) (sndSs_cons (sndS_asgCL G rfl (compK_of (by rfl) rfl) (takeL_two rfl rfl) (snd_slc G (snd_var rfl rfl) (snd_var rfl rfl) (snd_var rfl rfl)) (snd_var rfl rfl) (fun u0 u0 u0 u0 u0 u0 u0 u0 hit h=>letOwned_list hit h) rfl rfl (fun u0 u0=>rfl)) (sndSs_cons (sndS_asg rfl (.inl rfl) (snd_listR G (List.mem_of_getElem? (i:=13) rfl) (List.mem_of_getElem? (i:=5) rfl) (List.mem_of_getElem? (i:=14) rfl) (List.mem_of_getElem? (i:=6) rfl) (snd_bcall G (f:=.len) (List.mem_of_getElem? (i:=15) rfl) (List.mem_of_getElem? (i:=0) rfl) (sndEs_cons (snd_var rfl rfl) sndEs_nil fun u0=>rfl)) (fun u0=>rfl)) fun u0=>rfl) (sndSs_cons (sndS_ifs (sndB_plain (snd_var rfl rfl) fun u0 u0=>rfl) (sndSs_cons (sndS_asg rfl (.inl rfl) (snd_rev G (snd_var rfl rfl)) fun u0=>rfl) sndSs_nil) sndSs_nil) (sndSs_cons (sndS_asg rfl (.inl rfl) (snd_dict G) fun u0=>rfl) (sndSs_cons (sndS_asg rfl (.inl rfl) (snd_lst G sndEs_nil) fun u0=>rfl) (sndSs_cons (sndS_forL1 rfl (.inl rfl) (snd_var rfl rfl) (fun u0 u0=>rfl) (sndSs_cons (sndS_ifs (sndB_cmp G (snd_idx G (snd_var rfl rfl) (snd_var rfl rfl) fun u0 u0=>rfl) (snd_var rfl rfl) rfl) (sndSs_cons (sndS_setI G (snd_var rfl rfl) (snd_var rfl rfl) snd_bool fun u0=>rfl) sndSs_nil) (sndSs_cons (sndS_ifs (sndB_plain (snd_var rfl rfl) fun u0 u0=>rfl) (sndSs_cons (sndS_asg rfl (.inl rfl) (snd_lst G (sndEs_cons (snd_idx G (snd_var rfl rfl) (snd_var rfl rfl) fun u0 u0=>rfl) sndEs_nil fun u0=>rfl)) fun u0=>rfl) sndSs_nil) (sndSs_cons (sndS_ex (snd_append G (snd_var rfl rfl) (snd_idx G (snd_var rfl rfl) (snd_var rfl rfl) fun u0 u0=>rfl) (fun u0=>rfl) _ fun u0=>rfl) fun u0=>rfl) sndSs_nil)) sndSs_nil)) sndSs_nil)) (sndSs_cons (sndS_asg rfl (.inl rfl) (snd_lst G sndEs_nil) fun u0=>rfl) (sndSs_cons (sndS_forR1 G (List.mem_of_getElem? (i:=14) rfl) (List.mem_of_getElem? (i:=6) rfl) rfl (.inl rfl) (snd_bcall G (f:=.len) (List.mem_of_getElem? (i:=15) rfl) (List.mem_of_getElem? (i:=0) rfl) (sndEs_cons (snd_var rfl rfl) sndEs_nil fun u0=>rfl)) (sndSs_cons (sndS_ifs (sndB_cmp G (snd_var rfl rfl) (snd_var rfl rfl) rfl) (sndSs_cons (sndS_asgT (.cons rfl (.inl rfl) (.cons rfl (.inl rfl) .nil)) (snd_idx G (snd_var rfl rfl) (snd_var rfl rfl) fun u0 u0=>rfl) (fun u0=>rfl) fun u0=>rfl) (sndSs_cons (sndS_ex (snd_extend G (snd_var rfl rfl) (snd_slc G (snd_var rfl rfl) (snd_var rfl rfl) (snd_bin G (op:=.add) (snd_var rfl rfl) snd_int)) (fun u0=>rfl) _ fun u0=>rfl) fun u0=>rfl) sndSs_nil)) sndSs_nil) sndSs_nil) (fun u0=>rfl) (fun u0 u0=>rfl)) (sndSs_cons (sndS_ret (snd_tup (sndEs_cons (snd_frz rfl rfl) (sndEs_cons (snd_bcall G (f:=.len) (List.mem_of_getElem? (i:=15) rfl) (List.mem_of_getElem? (i:=0) rfl) (sndEs_cons (snd_var rfl rfl) sndEs_nil fun u0=>rfl)) sndEs_nil fun u0=>rfl) fun u0=>rfl))) sndSs_nil))))))))))
theorem snd_law (G:GlobOk g) (LK:ExcK g):SndSs g nm_law (bodyAt 91) m_law:=
 (sndSs_cons (sndS_asgV rfl (.inr rfl) (snd_compL G (compK_of (by rfl) rfl) (takeL_one rfl) (snd_bcall G (f:=.abs) (List.mem_of_getElem? (i:=2) rfl) (List.mem_of_getElem? (i:=3) rfl) (sndEs_cons (snd_var rfl rfl) sndEs_nil fun u0=>rfl)) (snd_slcTo G (snd_var rfl rfl) snd_int) (fun u0 u0 u0 u0 u0 u0 u0 u0 u0 h=>wpAny_of_eq rfl h) (fun u0 u0=>rfl)) fun u0 V=>swaps_cell (i:=1) V rfl) (sndSs_cons (sndS_asg rfl (.inr rfl) (snd_lst G (sndEs_cons snd_int (sndEs_cons snd_int (sndEs_cons snd_int (sndEs_cons snd_int (sndEs_cons snd_int (sndEs_cons snd_int (sndEs_cons snd_int sndEs_nil fun u0=>rfl) fun u0=>rfl) fun u0=>rfl) fun u0=>rfl) fun u0=>rfl) fun u0=>rfl) fun u0=>rfl)) fun u0=>rfl) (sndSs_cons (sndS_asgCR G rfl (compK_of (by rfl) rfl) (List.mem_of_getElem? (i:=18) rfl) (List.mem_of_getElem? (i:=6) rfl) rfl (snd_idx G (snd_var rfl rfl) (snd_call G (List.mem_of_getElem? (i:=2) rfl) rfl (sndEs_cons (snd_var rfl rfl) (sndEs_cons (snd_bcall G (f:=.len) (List.mem_of_getElem? (i:=3) rfl) (List.mem_of_getElem? (i:=0) rfl) (sndEs_cons (snd_var rfl rfl) sndEs_nil fun u0=>rfl)) sndEs_nil fun u0=>rfl) fun u0=>rfl)) fun u0 u0=>rfl) (snd_bin G (op:=.add) snd_int (snd_call G (List.mem_of_getElem? (i:=19) rfl) rfl (sndEs_cons (snd_var rfl rfl) (sndEs_cons snd_int sndEs_nil fun u0=>rfl) fun u0=>rfl))) rfl rfl (fun u0=>rfl) (fun u0 u0=>rfl)) (sndSs_cons (sndS_asg rfl (.inl rfl) (snd_bcall G (f:=.len) (List.mem_of_getElem? (i:=20) rfl) (List.mem_of_getElem? (i:=0) rfl) (sndEs_cons (snd_var rfl rfl) sndEs_nil fun u0=>rfl)) fun u0=>rfl) (sndSs_cons (sndS_asg rfl (.inr rfl) (snd_bin G (op:=.add) snd_int (snd_call G (List.mem_of_getElem? (i:=19) rfl) rfl (sndEs_cons (snd_var rfl rfl) (sndEs_cons (snd_bin G (op:=.add) (snd_var rfl rfl) snd_int) sndEs_nil fun u0=>rfl) fun u0=>rfl))) fun u0=>rfl) (sndSs_cons (sndS_asg rfl (.inl rfl) (snd_bin G (op:=.add) (snd_var rfl rfl) (snd_call G (List.mem_of_getElem? (i:=19) rfl) rfl (sndEs_cons (snd_var rfl rfl) (sndEs_cons (snd_bin G (op:=.sub) (snd_bin G (op:=.add) (snd_var rfl rfl) snd_int) (snd_var rfl rfl)) sndEs_nil fun u0=>rfl) fun u0=>rfl))) fun u0=>rfl) (sndSs_cons (sndS_asg rfl (.inr rfl) (snd_slc G (snd_var rfl rfl) (snd_bin G (op:=.sub) (snd_var rfl rfl) snd_int) (snd_bin G (op:=.sub) (snd_var rfl rfl) snd_int)) fun u0=>rfl) (sndSs_cons (sndS_asgCR G rfl (compK_of (by rfl) rfl) (List.mem_of_getElem? (i:=18) rfl) (List.mem_of_getElem? (i:=6) rfl) rfl (snd_bin G (op:=.add) snd_int (snd_call G (List.mem_of_getElem? (i:=2) rfl) rfl (sndEs_cons (snd_var rfl rfl) (sndEs_cons (snd_bin G (op:=.add) (snd_bcall G (f:=.len) (List.mem_of_getElem? (i:=3) rfl) (List.mem_of_getElem? (i:=0) rfl) (sndEs_cons (snd_var rfl rfl) sndEs_nil fun u0=>rfl)) snd_int) sndEs_nil fun u0=>rfl) fun u0=>rfl))) snd_int rfl rfl (fun u0=>rfl) (fun u0 u0=>rfl)) (sndSs_cons (sndS_asgX3 rfl rfl rfl (sndEs_cons (snd_idx G (snd_var rfl rfl) snd_int fun u0 u0=>rfl) (sndEs_cons (snd_idx G (snd_var rfl rfl) snd_int fun u0 u0=>rfl) (sndEs_cons (snd_lst G (sndEs_cons (snd_call G (List.mem_of_getElem? (i:=19) rfl) rfl (sndEs_cons (snd_var rfl rfl) (sndEs_cons snd_int sndEs_nil fun u0=>rfl) fun u0=>rfl)) (sndEs_cons (snd_call G (List.mem_of_getElem? (i:=19) rfl) rfl (sndEs_cons (snd_var rfl rfl) (sndEs_cons snd_int sndEs_nil fun u0=>rfl) fun u0=>rfl)) (sndEs_cons (snd_call G (List.mem_of_getElem? (i:=19) rfl) rfl (sndEs_cons (snd_var rfl rfl) (sndEs_cons snd_int sndEs_nil fun u0=>rfl) fun u0=>rfl)) sndEs_nil fun u0=>rfl) fun u0=>rfl) fun u0=>rfl)) sndEs_nil fun u0=>rfl) fun u0=>rfl) fun u0=>rfl) rfl rfl rfl rfl rfl (by intro e he;simp only [List.mem_cons,List.not_mem_nil,or_false] at he;rcases he with rfl | rfl | rfl<;>intro t p h<;>trivial) rfl rfl fun u0=>rfl) (sndSs_cons (sndS_ifs (sndB_cmp G (snd_call G (List.mem_of_getElem? (i:=19) rfl) rfl (sndEs_cons (snd_var rfl rfl) (sndEs_cons snd_int sndEs_nil fun u0=>rfl) fun u0=>rfl)) snd_int rfl) (sndSs_cons (sndS_asg rfl (.inl rfl) (snd_bin G (op:=.add) (snd_bcall G (f:=.len) (List.mem_of_getElem? (i:=20) rfl) (List.mem_of_getElem? (i:=0) rfl) (sndEs_cons (snd_var rfl rfl) sndEs_nil fun u0=>rfl)) snd_int) fun u0=>rfl) sndSs_nil) sndSs_nil) (sndSs_cons (sndS_asgT (.cons rfl (.inl rfl) (.cons rfl (.inl rfl) .nil)) (snd_call G (List.mem_of_getElem? (i:=21) rfl) rfl (sndEs_cons (snd_var rfl rfl) (sndEs_cons (snd_var rfl rfl) sndEs_nil fun u0=>rfl) fun u0=>rfl)) (fun u0=>rfl) fun u0=>rfl) (sndSs_cons (sndS_asgT (.cons rfl (.inl rfl) (.cons rfl (.inl rfl) .nil)) (snd_call G (List.mem_of_getElem? (i:=21) rfl) rfl (sndEs_cons (snd_var rfl rfl) (sndEs_cons (snd_compL G (compK_of (by rfl) rfl) (takeL_one rfl) (snd_bin G (op:=.sub) (snd_bin G (op:=.add) (snd_var rfl rfl) (snd_var rfl rfl)) snd_int) (snd_var rfl rfl) (fun u0 u0 u0 u0 u0 u0 u0 u0 u0 h=>wpAny_of_eq rfl h) (fun u0 u0=>rfl)) sndEs_nil fun u0=>rfl) fun u0=>rfl)) (fun u0=>rfl) fun u0=>rfl) (sndSs_cons (sndS_ex (snd_call G (List.mem_of_getElem? (i:=22) rfl) rfl (sndEs_cons (snd_var rfl rfl) (sndEs_cons (snd_var rfl rfl) (sndEs_cons (snd_var rfl rfl) sndEs_nil fun u0=>rfl) fun u0=>rfl) fun u0=>rfl)) fun u0=>rfl) (sndSs_cons (sndS_asgAA G rfl rfl (snd_var rfl rfl) (snd_var rfl rfl) (snd_idx G (snd_var rfl rfl) snd_int fun u0 u0=>rfl) (snd_bin G (op:=.sub) (snd_bin G (op:=.add) (snd_idx G (snd_var rfl rfl) snd_int fun u0 u0=>rfl) (snd_var rfl rfl)) snd_int) (fun u0=>rfl) (fun u0=>rfl) fun u0 V=>swappedAA V (by intro e he;simp only [List.mem_cons,List.not_mem_nil,or_false] at he;rcases he with rfl | rfl<;>intro t p h<;>trivial)) (sndSs_cons (sndS_asg rfl (.inl rfl) (snd_call G (List.mem_of_getElem? (i:=23) rfl) rfl (sndEs_cons (snd_var rfl rfl) (sndEs_cons (snd_var rfl rfl) (sndEs_cons (snd_var rfl rfl) (sndEs_cons (snd_var rfl rfl) sndEs_nil fun u0=>rfl) fun u0=>rfl) fun u0=>rfl) fun u0=>rfl)) fun u0=>rfl) (sndSs_cons (sndS_ifs (sndB_cmp G (snd_call G (List.mem_of_getElem? (i:=23) rfl) rfl (sndEs_cons (snd_var rfl rfl) (sndEs_cons (snd_var rfl rfl) (sndEs_cons (snd_bin G (op:=.sub) (snd_bin G (op:=.add) (snd_var rfl rfl) (snd_var rfl rfl)) snd_int) (sndEs_cons (snd_bin G (op:=.sub) (snd_bin G (op:=.add) (snd_var rfl rfl) (snd_var rfl rfl)) snd_int) sndEs_nil fun u0=>rfl) fun u0=>rfl) fun u0=>rfl) fun u0=>rfl)) (snd_var rfl rfl) rfl) (sndSs_cons (sndS_ret snd_bool) sndSs_nil) sndSs_nil) (sndSs_cons (sndS_asg rfl (.inl rfl) (snd_bin G (op:=.add) (snd_bin G (op:=.add) (snd_slcTo G (snd_var rfl rfl) (snd_bin G (op:=.sub) (snd_var rfl rfl) snd_int)) (snd_meth G (snd_var rfl rfl) rfl (sndEs_cons snd_int (sndEs_cons (snd_bin G (op:=.add) (snd_meth G (snd_var rfl rfl) rfl sndEs_nil _ fun u0=>rfl) snd_int) sndEs_nil fun u0=>rfl) fun u0=>rfl) _ fun u0=>rfl)) (snd_slcFrom G (snd_var rfl rfl) (snd_bin G (op:=.sub) (snd_var rfl rfl) snd_int))) fun u0=>rfl) (sndSs_cons (sndS_ifs (sndB_or (sndB_cmp G (snd_meth G (snd_var rfl rfl) rfl (sndEs_cons snd_int (sndEs_cons (snd_bin G (op:=.add) (snd_meth G (snd_var rfl rfl) rfl sndEs_nil _ fun u0=>rfl) snd_int) sndEs_nil fun u0=>rfl) fun u0=>rfl) _ fun u0=>rfl) (snd_var rfl rfl) rfl) (sndB_cmp G (snd_lst G (sndEs_cons (snd_attr G (snd_var rfl rfl) rfl fun u0=>rfl) (sndEs_cons (snd_attr G (snd_var rfl rfl) rfl fun u0=>rfl) sndEs_nil fun u0=>rfl) fun u0=>rfl)) (snd_lst G (sndEs_cons (snd_var rfl rfl) (sndEs_cons (snd_bin G (op:=.add) (snd_var rfl rfl) (snd_meth G (snd_var rfl rfl) rfl sndEs_nil _ fun u0=>rfl)) sndEs_nil fun u0=>rfl) fun u0=>rfl)) rfl)) (sndSs_cons (sndS_ret snd_bool) sndSs_nil) sndSs_nil) (sndSs_cons (sndS_ifs (sndB_cmp G (snd_attr G (snd_var rfl rfl) rfl fun u0=>rfl) (snd_bin G (op:=.sub) (snd_bin G (op:=.add) (snd_attr G (snd_var rfl rfl) rfl fun u0=>rfl) (snd_var rfl rfl)) snd_int) rfl) (sndSs_cons (sndS_ret snd_bool) sndSs_nil) sndSs_nil) (sndSs_cons (sndS_ret (snd_cmp G (snd_compL G (compK_of (by rfl) rfl) (takeL_one rfl) (snd_attr G (snd_var rfl rfl) rfl fun u0=>rfl) (snd_var rfl rfl) (fun u0 u0 u0 u0 u0 u0 u0 u0 u0 h=>wpAny_of_eq rfl h) (fun u0 u0=>rfl)) (snd_compL G (compK_of (by rfl) rfl) (takeL_one rfl) (snd_bin G (op:=.sub) (snd_bin G (op:=.add) (snd_attr G (snd_var rfl rfl) rfl fun u0=>rfl) (snd_var rfl rfl)) snd_int) (snd_var rfl rfl) (fun u0 u0 u0 u0 u0 u0 u0 u0 u0 h=>wpAny_of_eq rfl h) (fun u0 u0=>rfl)) rfl)) sndSs_nil))))))))))))))))))))
noncomputable def SndR (g:G) (r:Row):Prop:=SndSs g (scR r).names (bodyR r) r.m
theorem toldR {r:Row} (G:GlobOk g) (LK:ExcK g) (hh:Hint (scR r).names r.hs) (o:true=okS (scR r).names r.hs (.whl .none r.m)) (e:dSs (scR r).names r.m (bodyR r)=bodyR r):SndR g r:=told G LK hh o e
theorem sndRows (G:GlobOk g) (LK:ExcK g):AllR (SndR g) ROWS:=
 .cons (toldR G LK rfl rfl rfl) <|
 .cons (toldR G LK rfl rfl rfl) <|
 .cons (toldR G LK rfl rfl rfl) <|
 .cons (toldR G LK rfl rfl rfl) <|
 .cons (toldR G LK rfl rfl rfl) <|
 .cons (toldR G LK rfl rfl rfl) <|
 .cons (toldR G LK rfl rfl rfl) <|
 .cons (toldR G LK rfl rfl rfl) <|
 .cons (toldR G LK rfl rfl rfl) <|
 .cons (toldR G LK rfl rfl rfl) <|
 .cons (toldR G LK rfl rfl rfl) <|
 .cons (toldR G LK rfl rfl rfl) <|
 .cons (toldR G LK rfl rfl rfl) <|
 .cons (toldR G LK rfl rfl rfl) <|
 .cons (toldR G LK rfl rfl rfl) <|
 .cons (toldR G LK rfl rfl rfl) <|
 .cons (toldR G LK rfl rfl rfl) <|
 .cons (toldR G LK rfl rfl rfl) <|
 .cons (toldR G LK rfl rfl rfl) <|
 .cons (toldR G LK rfl rfl rfl) <|
 .cons (snd_downcased G LK) <|
 .cons (toldR G LK rfl rfl rfl) <|
 .cons (toldR G LK rfl rfl rfl) <|
 .cons (toldR G LK rfl rfl rfl) <|
 .cons (toldR G LK rfl rfl rfl) <|
 .cons (toldR G LK rfl rfl rfl) <|
 .cons (toldR G LK rfl rfl rfl) <|
 .cons (snd_ordered G LK) <|
 .cons (toldR G LK rfl rfl rfl) <|
 .cons (toldR G LK rfl rfl rfl) <|
 .cons (toldR G LK rfl rfl rfl) <|
 .cons (toldR G LK rfl rfl rfl) <|
 .cons (toldR G LK rfl rfl rfl) <|
 .cons (toldR G LK rfl rfl rfl) <|
 .cons (toldR G LK rfl rfl rfl) <|
 .cons (toldR G LK rfl rfl rfl) <|
 .cons (toldR G LK rfl rfl rfl) <|
 .cons (toldR G LK rfl rfl rfl) <|
 .cons (toldR G LK rfl rfl rfl) <|
 .cons (toldR G LK rfl rfl rfl) <|
 .cons (toldR G LK rfl rfl rfl) <|
 .cons (toldR G LK rfl rfl rfl) <|
 .cons (toldR G LK rfl rfl rfl) <|
 .cons (toldR G LK rfl rfl rfl) <|
 .cons (toldR G LK rfl rfl rfl) <|
 .cons (toldR G LK rfl rfl rfl) <|
 .cons (toldR G LK rfl rfl rfl) <|
 .cons (toldR G LK rfl rfl rfl) <|
 .cons (toldR G LK rfl rfl rfl) <|
 .cons (toldR G LK rfl rfl rfl) <|
 .cons (toldR G LK rfl rfl rfl) <|
 .cons (toldR G LK rfl rfl rfl) <|
 .cons (toldR G LK rfl rfl rfl) <|
 .cons (toldR G LK rfl rfl rfl) <|
 .cons (toldR G LK rfl rfl rfl) <|
 .cons (toldR G LK rfl rfl rfl) <|
 .cons (toldR G LK rfl rfl rfl) <|
 .cons (toldR G LK rfl rfl rfl) <|
 .cons (toldR G LK rfl rfl rfl) <|
 .cons (toldR G LK rfl rfl rfl) <|
 .cons (toldR G LK rfl rfl rfl) <|
 .cons (toldR G LK rfl rfl rfl) <|
 .cons (toldR G LK rfl rfl rfl) <|
 .cons (toldR G LK rfl rfl rfl) <|
 .cons (toldR G LK rfl rfl rfl) <|
 .cons (toldR G LK rfl rfl rfl) <|
 .cons (toldR G LK rfl rfl rfl) <|
 .cons (toldR G LK rfl rfl rfl) <|
 .cons (toldR G LK rfl rfl rfl) <|
 .cons (toldR G LK rfl rfl rfl) <|
 .cons (toldR G LK rfl rfl rfl) <|
 .cons (toldR G LK rfl rfl rfl) <|
 .cons (toldR G LK rfl rfl rfl) <|
 .cons (toldR G LK rfl rfl rfl) <|
 .cons (toldR G LK rfl rfl rfl) <|
 .cons (toldR G LK rfl rfl rfl) <|
 .cons (toldR G LK rfl rfl rfl) <|
 .cons (snd_narrow G LK) <|
 .cons (toldR G LK rfl rfl rfl) <|
 .cons (toldR G LK rfl rfl rfl) <|
 .cons (snd__law_buffer G LK) <|
 .cons (toldR G LK rfl rfl rfl) <|
 .cons (toldR G LK rfl rfl rfl) <|
 .nil
end
end Mine
namespace Mine
theorem zip_lookup:∀ (ps:List Str) (ys:List Value) (i:Nat) (x:Str),ps.Nodup→ps[i]?=some x→ps.length=ys.length→(ps.zip ys).lookup x=ys[i]?
 | [],_,_,_,_,h,_=>by trivial
 | p::ps,[],_,_,_,_,h=>by rfl
 | p::ps,y::ys,0,x,_,h,_=>by
  simp only [List.getElem?_cons_zero,Option.some.injEq] at h;subst h;simp [List.lookup]
 | p::ps,y::ys,i+1,x,nd,h,hl=>by
  simp only [List.getElem?_cons_succ] at h ⊢
  have nd':=List.nodup_cons.mp nd
  have hne:(x==p)=false:=by
   cases q:x==p with
   | false=>rfl
   | true=>exact absurd (beq_iff_eq.mp q▸List.mem_of_getElem? h) nd'.1
  simp only [List.zip_cons_cons,List.lookup_cons,hne]
  exact zip_lookup ps ys i x nd'.2 h (by exact Nat.succ.inj hl)
theorem filterMap_zip (ps:List Str) (ys:List Value) (nd:ps.Nodup) (hl:ps.length=ys.length):ps.filterMap (fun n=>((ps.zip ys).lookup n).map fun v=>(n,v))=ps.zip ys:=by
 have key:∀ (qs:List Str) (zs:List Value),qs.length=zs.length→(∀ (i:Nat) (x:Str),qs[i]?=some x→(ps.zip ys).lookup x=zs[i]?)→qs.filterMap (fun n=>((ps.zip ys).lookup n).map fun v=>(n,v))=qs.zip zs:=by
  intro qs
  induction qs with
  | nil=>intro zs _ _;rfl
  | cons q qs ih=>
   intro zs hl h
   cases zs with
   | nil=>trivial
   | cons z zs=>
    have h0:=h 0 q rfl
    simp only [List.getElem?_cons_zero] at h0
    rw [List.filterMap_cons,h0]
    simp only [Option.map_some,List.zip_cons_cons]
    rw [ih zs (by exact Nat.succ.inj hl) fun i x hx=>h (i+1) x (by simpa using hx)]
 exact key ps ys hl fun i x hx=>zip_lookup ps ys i x nd hx hl
theorem zip_found {ps:List Str} {ys:List Value} (nd:ps.Nodup) (hl:ys.length=ps.length) (k:Nat):(!((ps.take k).filter fun n=>((ps.zip ys).lookup n).isNone).isEmpty)=false:=by
 rw [List.filter_eq_nil_iff.mpr]
 ·rfl
 intro x hx
 obtain ⟨i,hi⟩:=List.getElem?_of_mem (List.mem_of_mem_take hx)
 rw [zip_lookup ps ys i x nd hi hl.symm]
 rcases Nat.lt_or_ge i ys.length with l | l
 ·rw [List.getElem?_eq_getElem l];exact Bool.noConfusion
 ·rw [List.getElem?_eq_none (hl▸l)] at hi;trivial
theorem zip_none {α β:Type} {l:List α} {m:List β} (h:m=[]):l.zip m=[]:=h▸List.zip_nil_right
theorem bind_loop {α β γ:Type} {l:List α} {s:β} {f:α→β→Sem (ForInStep β)} {g:β→Sem γ} {r:Sem γ} (h:l=[]) (e:g s=r):bind (forIn l s f) g=r:=by
 subst h;exact e
theorem bind_plain {fd:FuncData} {ps:List Str} (h1:fd.params.posonlyargs=[]) (h2:fd.params.args.map (·.arg)=ps) (h3:fd.params.kwonlyargs=[]) (h4:fd.params.vararg=none) (h5:fd.params.kwarg=none) (hd:fd.defaults=.none) (nd:ps.Nodup) {ys:List Value} (hl:ys.length=ps.length) :
  bindArgs fd ⟨ys,[]⟩=pure (ps.zip ys):=by
 obtain ⟨a1,a2,⟨po,as,va,ko,kd,kw,de⟩,a4,a5,a6,a7,df,a9,a10,a11,a12,a13,a14,a15⟩:=fd
 cases h1
 cases h3
 cases h4
 cases h5
 cases hd
 change as.map (·.arg)=ps at h2
 subst h2
 refine Eq.trans (if_neg (α:=Sem (List (Str × Value))) (c:=(decide (ys.length > (as.map (·.arg)).length)&&true)=true) ?_) ?_
 ·rw [hl,decide_eq_false (Nat.lt_irrefl _)];exact Bool.noConfusion
 refine Eq.trans (if_neg (α:=Sem (List (Str × Value))) (c:=_) fun h=>Bool.noConfusion ((zip_found nd hl _).symm.trans h)) ?_
 refine bind_loop (zip_none List.drop_nil) ?_
 show Sem.pure (List.filterMap _ (as.map (·.arg)++[]))=_
 rw [List.append_nil]
 exact congrArg Sem.pure (filterMap_zip _ ys nd hl.symm)
end Mine
namespace Mine
noncomputable def refIs (o:Option (Option Value)) (f:Addr):Bool:=match o with
 | some (some (.ref a))=>Nat.beq a f
 | _=>false
noncomputable def isNo (o:Option (Option Value)):Bool:=match o with
 | some none=>true
 | _=>false
noncomputable def globIs (v:V) (o:Option (Option Value)):Bool:=match v with
 | .fn f=>refIs o f
 | .int i=>(match o with
  | some (some (.int j _))=>decide (i=j)
  | _=>false)
 | _=>false
noncomputable def blt (o:Option (Option Value)) (s:String):Bool:=match o with
 | some (some (.builtin t))=>t==s
 | _=>false
noncomputable def tyIs (o:Option Value) (s:String):Bool:=match o with
 | some (.type t)=>t==s
 | _=>false
theorem refIs_eq {o:Option (Option Value)} {f:Addr} (h:refIs o f=true):o=some (some (.ref f)):=by
 unfold refIs at h
 split at h
 ·rw [Nat.eq_of_beq_eq_true h]
 ·trivial
theorem isNo_eq {o:Option (Option Value)} (h:isNo o=true):o=some none:=by
 unfold isNo at h
 split at h
 ·rfl
 ·trivial
theorem blt_eq {o:Option (Option Value)} {s:String} (h:blt o s=true):o=some (some (.builtin s)):=by
 unfold blt at h
 split at h
 ·rw [beq_iff_eq.mp h]
 ·trivial
theorem tyIs_eq {o:Option Value} {s:String} (h:tyIs o s=true):o=some (.type s):=by
 unfold tyIs at h
 split at h
 ·rw [beq_iff_eq.mp h]
 ·trivial
inductive FnA (K:Frag) (f:Addr) (params:Arguments) (body:List Stmt) (scope:Scope):Prop
 | mk (oc:Value) (od:Option Addr) (osl:Array (Option Value)) (name qual:Str) (kV doc pm:Value) (an:Option Addr) (cdv ct:Value) (hl:K.lookup f=some ⟨oc,od,.func (fnOf name qual params body scope .none kV doc pm an cdv ct),osl⟩) (hc:codeIn K cdv qual=true):FnA K f params body scope
noncomputable def plainP (p:Arguments) (ps:List Str):Prop:=p.posonlyargs=[]∧p.args.map (·.arg)=ps∧p.kwonlyargs=[]∧p.vararg=none∧p.kwarg=none
theorem FnA.at {K:Frag} {f:Addr} {params:Arguments} {body:List Stmt} {scope:Scope} {pn:List Str} (F:FnA K f params body scope) (hp:plainP params pn) (nd:pn.Nodup):FnAt K f params body scope pn []:=by
 obtain ⟨oc,od,osl,name,qual,kV,doc,pm,an,cdv,ct,hl,hc⟩:=F
 refine ⟨oc,od,osl,name,qual,.none,kV,doc,pm,an,cdv,ct,hl,hc,fun s ys X h=>⟨[],fun Z=>VRs.nil,?_⟩⟩
 rw [List.append_nil]
 exact BindsTo.of_eq (bind_plain hp.1 hp.2.1 hp.2.2.1 hp.2.2.2.1 hp.2.2.2.2 rfl nd (by simpa using h))
theorem FnA.atC {K:Frag} {f:Addr} {params:Arguments} {body:List Stmt} {scope:Scope} {pn:List (Str × NameKind)} (F:FnA K f params body scope) (hp:plainP params (pn.map (·.1))) (nd:(pn.map (·.1)).Nodup):FnAtC K f params body scope pn:=by
 obtain ⟨oc,od,osl,name,qual,kV,doc,pm,an,cdv,ct,hl,hc⟩:=F
 exact ⟨oc,od,osl,name,qual,.none,kV,doc,pm,an,cdv,ct,hl,hc,fun ys h=>bind_plain hp.1 hp.2.1 hp.2.2.1 hp.2.2.2.1 hp.2.2.2.2 rfl nd (by simpa using h)⟩
theorem all_s {n:Nat} {X:Prop} {P:List Value→Prop} (h:∀ a ys,X→ys.length+1=n+1→P (a::ys)) (ys:List Value) (x:X) (e:ys.length+1=n+1+1):P ys:=by
 cases ys with
 | nil=>cases e
 | cons a r=>exact h a r x (Nat.succ.inj e)
theorem all_0 {X:Prop} {P:List Value→Prop} (h:X→P []) (ys:List Value) (x:X) (e:ys.length+1=0+1):P ys:=by
 cases ys with
 | nil=>exact h x
 | cons a r=>cases e
theorem all2 {X:Prop} {P:List Value→Prop} (h:∀ a b,X→P [a,b]):∀ ys,X→ys.length+1=3→P ys:=all_s fun a=>all_s fun b=>all_0 (h a b)
theorem all3 {X:Prop} {P:List Value→Prop} (h:∀ a b c,X→P [a,b,c]):∀ ys,X→ys.length+1=4→P ys:=all_s fun a=>all_s fun b=>all_s fun c=>all_0 (h a b c)
theorem all4 {X:Prop} {P:List Value→Prop} (h:∀ a b c d,X→P [a,b,c,d]):∀ ys,X→ys.length+1=5→P ys:=all_s fun a=>all_s fun b=>all_s fun c=>all_s fun d=>all_0 (h a b c d)
noncomputable def pnR (r:Row):List Str:=(parR r).args.map (·.arg)
inductive FnR (K:Frag) (r:Row):Prop
 | a (e:r.dv=[]) (h:FnA K r.f (parR r) (bodyR r) (scR r))
 | t (h:FnAt K r.f (parR r) (bodyR r) (scR r) (pnR r) r.dv)
noncomputable def rOut:Row:=⟨842,90,0,[],4,[],7,[]⟩
structure KF (K:Frag):Prop where
 kg:(GT.all fun e=>match e.2 with | .fn f=>keepIn K (.ref f) | _=>true)=true
 km:(MT.all fun e=>keepIn K (.ref e.2.2))=true
 me:(MT.all fun e=>match MN[e.2.1]? with | some n=>refIs (findIn K (.ref e.1) n) e.2.2&&isFn K (.ref e.2.2)&&plainGet K e.1 n | none=>true)=true
 cl:(FT.all fun e=>hasDictIn K e.1&&plainOver K e.1&&blt (findIn K (.ref e.1) "__setattr__") "object.__setattr__"&&plainGet K e.1 "")=true
 fl:(FT.all fun e=>e.2.all fun k=>match AT[k]? with | some n=>isNo (findIn K (.ref e.1) n) | none=>true)=true
 gt:(GT.all fun e=>globIs e.2 (nsIn K mainGlobals e.1))=true
 bt:(BT.all fun e=>isNo (nsIn K mainGlobals e.1))=true
 ck:([(456,383),(533,509),(601,549),(707,620),(761,723)].all fun e:Nat × Nat=>makesIn K e.1&&refIs (findIn K (.ref e.1) "__init__") e.2&&tyIs (typeIn K (.ref e.2)) "function")=true
 law:nsIn K mainGlobals "law"=some (some (.ref 847))
 e1:ClsAt K
 e2:(blt (findIn K (.ref cLisp) "__setattr__") "object.__setattr__"&&isNo (findIn K (.ref cLisp) "symbol")&&isNo (findIn K (.ref cLisp) "data")&&keepIn K (.ref cLisp)&&blt (findIn K (.ref cLisp) "__getattribute__") "BaseException.__getattribute__"&&isNo (findIn K (.ref cLisp) "__getattr__")&&hasDictIn K cLisp)=true
 e3:∃ oI,K.lookup 35=some oI∧oI.cls=.type "function"
 fns:AllR (FnR K) ROWS
 f842:FnR K rOut
 f299:FnA K 299 (parAt 53) (bodyAt 53) (scAt 53)
 f847:FnA K 847 (parAt 91) (bodyAt 91) (scAt 91)
set_option tactic.hygienic true in
theorem strKeys_of {es:List DictEntry} (h:(es.all fun e=>match e.key with | .str _ _=>true | _=>false)=true):StrKeys es.toArray:=by
 intro e he
 have:=List.all_eq_true.mp h e (by exact he.1)
 split at this
 ·rename_i n t hk;exact ⟨n,t,hk⟩
 ·trivial
theorem bt_boot:∀ e∈BT,bootBuiltins e.1=some e.2:=by
 intro e he
 simp only [BT,List.mem_cons,List.not_mem_nil,or_false] at he
 rcases he with rfl | rfl | rfl | rfl | rfl | rfl | rfl | rfl<;>with_unfolding_all rfl
theorem bt_name:∀ e∈BT,e.1≠("__name__":Str):=by
 intro e he
 simp only [BT,List.mem_cons,List.not_mem_nil,or_false] at he
 rcases he with rfl | rfl | rfl | rfl | rfl | rfl | rfl | rfl<;>decide +kernel
theorem mn_at:∀ e∈MT,∀ name,MN[e.2.1]?=some name→∀ j x,AT[j]?=some x→fldOk e.1 j FT=true→x≠name:=by
 have h:(MT.all fun e=>(List.range AT.length).all fun j=>match AT[j]?,MN[e.2.1]? with
  | some x,some n=>!(fldOk e.1 j FT)||x != n
  | _,_=>true)=true:=by decide +kernel
 intro e he name hn j x hx hf
 have h1:=List.all_eq_true.mp h e he
 have hj:j < AT.length:=by
  rcases Nat.lt_or_ge j AT.length with l | l
  ·exact l
  ·rw [List.getElem?_eq_none l] at hx;cases hx
 have h2:=List.all_eq_true.mp h1 j (List.mem_range.mpr hj)
 simp only [hx,hn,hf,Bool.not_true,Bool.false_or] at h2
 exact bne_iff_ne.mp h2
theorem fld_in {C:Addr} {k:Nat}:∀ {l:List (Addr × List Nat)},fldOk C k l=true→∃ ks,(C,ks)∈l∧k∈ks
 | []=>@fun h=>by trivial
 | (D,ks)::r=>@fun h=>by
  unfold fldOk at h
  cases hd:Nat.beq D C with
  | true=>
   rw [hd] at h
   obtain ⟨j,hj,hb⟩:=List.any_eq_true.mp (show ks.any (Nat.beq k)=true from h)
   rw [Nat.eq_of_beq_eq_true hd,Nat.eq_of_beq_eq_true hb]
   exact ⟨ks,.head _,hj⟩
  | false=>
   rw [hd] at h
   obtain ⟨l,h1,h2⟩:=fld_in h
   exact ⟨l,.tail _ h1,h2⟩
theorem mt_of {C:Addr} {k:Nat} {f:Addr}:∀ {l:List (Addr × Nat × Addr)},methOf C k l=some f→(C,k,f)∈l
 | []=>@fun h=>by trivial
 | (D,j,f')::r=>@fun h=>by
  unfold methOf at h
  split at h
  ·rename_i hd
   cases h
   rw [Bool.and_eq_true] at hd
   rw [Nat.eq_of_beq_eq_true hd.1,Nat.eq_of_beq_eq_true hd.2]
   exact .head _
  ·exact .tail _ (mt_of h)
section
variable {prog:Program} {w:World} {B:Heap} {K:Frag} (F:KF K)
include F
set_option tactic.hygienic true in
theorem globOk (hB:K.In B) (lim:B.NoLimit) {mg mb:Str→Option Value} (hg:B.Ns mainGlobals mg) (hb:B.Ns builtinsNs mb) (hbb:∀ x:Str,x≠"__name__"→mb x=bootBuiltins x):GlobOk ⟨prog,w,K,B⟩ where
 kin:=hB
 kp:=fun f h=>by
  rcases h with ⟨x,h⟩ | ⟨C,k,h⟩
  ·exact List.all_eq_true.mp F.kg _ h
  ·exact List.all_eq_true.mp F.km _ (mt_of h)
 lim:=lim
 gt:=by
  refine ⟨mg,mb,hg,hb,fun j x v h=>?_,fun x y h=>⟨mg_none_of hB hg (isNo_eq (List.all_eq_true.mp F.bt _ h)),(hbb x (bt_name _ h)).trans (bt_boot _ h)⟩⟩
  have:=List.all_eq_true.mp F.gt _ (List.mem_of_getElem? h)
  cases v with
  | fn f=>exact ⟨_,fun Z=>rfl,mg_of hB hg (refIs_eq this)⟩
  | int i=>
   simp only [globIs] at this
   split at this
   ·rename_i j t e
    have e2:i=j:=of_decide_eq_true this
    exact ⟨_,fun Z=>⟨t,by exact e2▸rfl⟩,mg_of hB hg e⟩
   ·trivial
  | _=>trivial
 meth:=fun C k f name h hn=>by
  have:=List.all_eq_true.mp F.me _ (mt_of h)
  simp only [hn,Bool.and_eq_true] at this
  exact ⟨refIs_eq this.1.1,this.1.2,this.2,fun j x hx hf=>mn_at _ (mt_of h) name hn j x hx hf⟩
 fld:=fun C k name h hn=>by
  obtain ⟨l,hl,hk⟩:=fld_in h
  have h2:=List.all_eq_true.mp (List.all_eq_true.mp F.fl _ hl) _ hk
  simp only [hn] at h2
  have h3:=List.all_eq_true.mp F.cl _ hl
  simp only [Bool.and_eq_true] at h3
  exact ⟨isNo_eq h2,h3.2,h3.1.1.1,blt_eq h3.1.2,h3.1.1.2⟩
omit F
theorem hasDef_of {g:G} (G:GlobOk g) {f:Addr} {params:Arguments} {body:List Stmt} {scope:Scope} {pn:List Str} {dv:List V} (K:DefK g f params body scope pn dv) {b:List S} (Sb:SndSs g scope.names body b) {np k:Nat} (h1:pn.length=np) (h2:scope.names.length=k):HasDef g f b np dv k:=by
 subst h1 h2
 exact fun n args Q X H hl w=>callC_def G K Sb hl w
theorem hasDef_ofC {g:G} (G:GlobOk g) {f:Addr} {params:Arguments} {body:List Stmt} {scope:Scope} {pn:List (Str × NameKind)} (K:DefKC g f params body scope pn) {b:List S} (Sb:SndSs g scope.names body b) {np k:Nat} (h1:pn.length=np) (h2:scope.names.length=k):HasDef g f b np [] k:=by
 subst h1 h2
 intro n args Q X H hl w
 rw [List.append_nil] at w
 exact callC_defC G K Sb (by simpa using hl) w
theorem ntr {b:Bool} (h:(!b)=true):b=false:=by
 cases b with
 | false=>rfl
 | true=>exact h.symm
noncomputable def psChk:List (Str × NameKind)→List Str→Bool
 | _,[]=>true
 | [],_::_=>false
 | x::l,y::r=>((x.1==y)&&nkEq x.2 .local)&&psChk l r
theorem psChk_ok (ps:List Str):∀ l,psChk l ps=true→l.take ps.length=ps.map fun x=>(x,NameKind.local):=by
 induction ps with
 | nil=>exact fun l u0=>by cases l<;>rfl
 | cons y r ih=>
  intro l h
  cases l with
  | nil=>trivial
  | cons x l=>
   have h1:=and_1 h
   have h2:=and_1 h1.1
   show x::l.take r.length=_
   rw [ih l h1.2,← beq_iff_eq.mp h2.1,← nkEq_eq h2.2];rfl
noncomputable def rowChk (r:Row):Bool:=
 (((parR r).posonlyargs.isEmpty&&((parR r).kwonlyargs.isEmpty&&((parR r).vararg.isNone&&(parR r).kwarg.isNone)))&&(ndup (pnR r)&&(ndup ((scR r).names.map (·.1))&&psChk (scR r).names (pnR r)))) &&
 ((((match (scR r).kind with | .function=>true | _=>false)&&(!(scR r).isCoroutine&&!(scR r).isGenerator))&&((scR r).names.all fun p=>!isCell p.2&&(!(p.1==("__debug__":Str))&&!(p.1==("__classdict__":Str)))))&&(Nat.beq (pnR r).length r.np&&Nat.beq (scR r).names.length r.k))
theorem isE {α:Type} {l:List α} (h:l.isEmpty=true):l=[]:=by
 cases l with
 | nil=>rfl
 | cons=>exact of_decide_eq_true h
theorem isN {α:Type} {o:Option α} (h:o.isNone=true):o=none:=by
 cases o with
 | none=>rfl
 | some=>exact of_decide_eq_true h
theorem rowK {g:G} {r:Row} (h:FnR g.K r) (c:rowChk r=true):DefK g r.f (parR r) (bodyR r) (scR r) (pnR r) r.dv:=by
 have c1:=and_1 c
 have c2:=and_1 c1.1
 have c3:=and_1 c2.2
 have c4:=and_1 c3.2
 have c5:=and_1 c1.2
 have c6:=and_1 c5.1
 have c7:=and_1 c6.1
 have c8:=and_1 c7.2
 have p1:=and_1 c2.1
 have p2:=and_1 p1.2
 have p3:=and_1 p2.2
 refine ⟨?_,?_,ntr c8.1,ntr c8.2,ndup_nodup c4.1,fun p hp=>?_,psChk_ok _ _ c4.2,fun p hp q=>?_⟩
 ·cases h with
  | a e h=>rw [e];exact h.at ⟨isE p1.1,rfl,isE p2.1,isN p3.1,isN p3.2⟩ (ndup_nodup c3.1)
  | t h=>exact h
 ·have:=c7.1
  cases k:(scR r).kind with
  | function=>rfl
  | _=>rw [k] at this;exact of_decide_eq_true this
 ·have:=and_1 (and_1 (List.all_eq_true.mp c6.2 p hp)).2
  exact ⟨ntr this.1,ntr this.2⟩
 ·have:=(and_1 (List.all_eq_true.mp c6.2 p hp)).1
  rw [q] at this;exact of_decide_eq_true this
theorem rowHas {g:G} (G:GlobOk g) {r:Row} (h:FnR g.K r) (c:rowChk r=true) (s:SndR g r):r.Has g:=
 hasDef_of G (rowK h c) s (Nat.eq_of_beq_eq_true (and_1 (and_1 (and_1 c).2).2).1) (Nat.eq_of_beq_eq_true (and_1 (and_1 (and_1 c).2).2).2)
theorem rowsHas {g:G} (G:GlobOk g) {l:List Row} (h:AllR (FnR g.K) l) (s:AllR (SndR g) l):l.all rowChk=true→AllR (Row.Has g) l:=by
 induction h with
 | nil=>exact fun u0=>.nil
 | cons h t ih=>
  intro c
  cases s with
  | cons s u=>exact .cons (rowHas G h (and_1 c).1 s) (ih u (and_1 c).2)
theorem rowsChk:ROWS.all rowChk=true:=by decide +kernel
include F
theorem fnR {i:Nat} {r:Row} (h:ROWS[i]?=some r):FnR K r:=by
 have:∀ {l:List Row},AllR (FnR K) l→∀ {i:Nat},l[i]?=some r→FnR K r:=by
  intro l a
  induction a with
  | nil=>exact fun h=>nomatch h
  | cons h t ih=>
   intro i e
   cases i with
   | zero=>cases e;exact h
   | succ i=>exact ih e
 exact this F.fns h
theorem dkR {i:Nat} {r:Row} (h:ROWS[i]?=some r):DefK ⟨prog,w,K,B⟩ r.f (parR r) (bodyR r) (scR r) (pnR r) r.dv:=rowK (fnR F h) (List.all_eq_true.mp rowsChk _ (List.mem_of_getElem? h))
theorem k_299:DefKC ⟨prog,w,K,B⟩ 299 (parAt 53) (bodyAt 53) (scAt 53) [("codes",.cell),("is_last_kept",.«local»),("is_next_only",.«local»)]:=⟨F.f299.atC ⟨rfl,rfl,rfl,rfl,rfl⟩ (by decide +kernel),rfl,rfl,rfl,by decide +kernel,by decide +kernel,rfl,by decide +kernel⟩
theorem k_847:DefKC ⟨prog,w,K,B⟩ 847 (parAt 91) (bodyAt 91) (scAt 91) [("script",.«local»)]:=⟨F.f847.atC ⟨rfl,rfl,rfl,rfl,rfl⟩ (by decide +kernel),rfl,rfl,rfl,by decide +kernel,by decide +kernel,rfl,by decide +kernel⟩
theorem excK:ExcK ⟨prog,w,K,B⟩:=by
 have h:=F.e2
 simp only [Bool.and_eq_true] at h
 obtain ⟨⟨⟨⟨⟨⟨h1,h2⟩,h3⟩,h4⟩,h5⟩,h6⟩,h7⟩:=h
 exact ⟨F.e1,blt_eq h1,isNo_eq h2,isNo_eq h3,⟨_,_,_,_,_,_,_,_,_,_,dkR F (i:=82) rfl⟩,h4,F.e3⟩
theorem excG:ExcG ⟨prog,w,K,B⟩:=by
 have h:=F.e2
 simp only [Bool.and_eq_true] at h
 exact ⟨blt_eq h.1.1.2,isNo_eq h.1.2,h.2⟩
theorem clsK {C f:Nat} (hm:(C,f)∈[(456,383),(533,509),(601,549),(707,620),(761,723)]):ClsK ⟨prog,w,K,B⟩ C f:=by
 have h:=List.all_eq_true.mp F.ck _ hm
 simp only [Bool.and_eq_true] at h
 exact ⟨h.1.1,refIs_eq h.1.2,tyIs_eq h.2⟩
include F
theorem defs (G:GlobOk ⟨prog,w,K,B⟩):Defs ⟨prog,w,K,B⟩ where
 rows:=(rowsHas G F.fns (sndRows G (excK F)) rowsChk).at fun n args Q X H hl=>nomatch hl
 without_doubles:=hasDef_ofC G (k_299 F) (snd_without_doubles G (excK F)) rfl rfl
 cGap:=fun n args Q X H w=>callW_cls G (clsK F (by exact .head _)) w
 cMarker:=fun n args Q X H w=>callW_cls G (clsK F (by exact .tail _ (.head _))) w
 cMarkers:=fun n args Q X H w=>callW_cls G (clsK F (by exact .tail _ (.tail _ (.head _)))) w
 cBuffer:=fun n args Q X H w=>callW_cls G (clsK F (by exact .tail _ (.tail _ (.tail _ (.head _))))) w
 cLit:=fun n args Q X H w=>callW_cls G (clsK F (by exact .tail _ (.tail _ (.tail _ (.tail _ (.head _)))))) w
 outcome:=fun n args Q X H hl wh=>callC_defU G (rowK F.f842 (r:=rOut) (by decide +kernel)) (sndU_try G (excK F) (excG F) (j:=73) (i:=4) (List.mem_of_getElem? (i:=6) rfl) rfl rfl
  (sndSs_cons (sndS_ret (snd_tup (sndEs_cons snd_str (sndEs_cons (snd_call G (List.mem_of_getElem? (i:=5) rfl) rfl (sndEs_cons (snd_var rfl rfl) (sndEs_cons (snd_var rfl rfl) (sndEs_cons (snd_var rfl rfl) (sndEs_cons (snd_var rfl rfl) sndEs_nil fun u0=>rfl) fun u0=>rfl) fun u0=>rfl) fun u0=>rfl)) sndEs_nil fun u0=>rfl) fun u0=>rfl))) sndSs_nil)) hl (by show wSs _ _ _ (startLoc (args++[]) 7) _ _ _ _;rw [List.append_nil];exact wh)
 srt:=fun ps ks hk h64 b n Q H w=>sortW_record G (keyOk_of G (dkR F (i:=28) rfl)) ks hk h64 w
theorem lawDef (G:GlobOk ⟨prog,w,K,B⟩):HasDef ⟨prog,w,K,B⟩ 847 m_law 1 [] 24:=hasDef_ofC G (k_847 F) (snd_law G (excK F)) rfl rfl
end
end Mine
namespace Mine
theorem vrs_well {P:Params} {h:Heap} {Z:Zone}:∀ {zs:List Int} {vs:List Value},WellAll P h vs (ofPys (zs.map PyData.int))→VRs Z (vints zs) vs
 | [],vs,w=>by
  simp only [List.map_nil,ofPys] at w
  cases w;exact .nil
 | z::zs,vs,w=>by
  simp only [List.map_cons,ofPys,ofPy] at w
  cases w with
  | cons w1 w2=>
   cases w1
   exact VRs.cons (by simp only [VR];exact ⟨_,rfl⟩) (vrs_well w2)
set_option tactic.hygienic true in
theorem vr_well {P:Params} {h:Heap} {zs:List Int} {v:Value} (hz:zs.length≤63) (w:Well P h v (ofPy (.list (zs.map PyData.int)))):VR (fun b=>h.get? b) (.lst (vints zs)) v:=by
 simp only [ofPy] at w
 cases w with
 | list h1 h2=>
  rename_i a vs
  have h3:VRs (fun b=>h.get? b) (vints zs) vs:=vrs_well h2
  have hl:=h3.length
  rw [vints_len] at hl
  simp only [VR]
  exact ⟨a,_,vs.toArray,rfl,h1,by simp;omega,by simpa using h3⟩
theorem inv_start (prog:Program) (w:World) (h:Heap):Inv prog w h [] (fun b=>h.get? b) (fun u0=>none) h where
 base:=fun u0 u0 e=>e
 zin:=fun u0 u0 e=>e
 frs:=fun u0 hb=>nomatch hb
 own:=⟨fun u0=>0,fun u0 u0 e=>(nomatch e),fun u0 u0 u0 u0 u0 u0 e=>(nomatch e),fun u0 u0 u0 e=>(nomatch e)⟩
theorem gd_start:Gd callerA [] 25 where
 frames:=⟨[],rfl,rfl,fun u0 h=>(nomatch h)⟩
 handled:=rfl
 depth:=by decide +kernel
 units:=by decide +kernel
theorem runs {prog:Program} {w:World} {s:Shared} {p:Params} {K:Frag} (D:Defs ⟨prog,w,K,s.heap⟩) (DL:HasDef ⟨prog,w,K,s.heap⟩ 847 m_law 1 [] 24) {zs:List Int} (hz:zs.length≤63) {v:Value} (wv:Well p s.heap v (ofPy (.list (zs.map PyData.int)))) {E:Value→Shared→Prop} :
  wpAny (model prog w) callerA (PySem.call (.ref 847) [v]) (fun y s'=>y=.bool true∧(∀ b o,s.heap.get? b=some o→s'.heap.get? b=some o)∧s'.os=s.os∧s'.gens=s.gens) E s:=by
 have C:=(c_law D DL zs hz (H:=fun u0=>none) (Q:=fun v u0=>v=.bool true) (X:=fun u0 u0=>False) fun u0=>rfl).w
 refine wpAny_mono (C.go callerA [] s _ [v] gd_start (inv_start prog w s.heap) (VRs.one (vr_well hz wv))) (fun y s' h=>?_) fun e s' h=>?_
 ·obtain ⟨u,Z',H',go,I,r,rfl⟩:=h
  exact ⟨r,fun b o e=>I.zin _ _ (go.ext _ _ e),go.same.2.2,go.same.1⟩
 ·obtain ⟨_,_,_,_,_,_,q⟩:=h
  exact q.elim
theorem kf_of {K:Frag} {h:Heap} (_:K.In h) (F:KF K):KF K:=F
theorem law_at {K:Frag} (F:KF K) {h:Heap} {mg:Str→Option Value} {fa:Addr} (X:K.In h) (g:h.Ns mainGlobals mg) (hm:mg (Str.ofString "law")=some (.ref fa)):fa=847:=by
 have e:=mg_of X g F.law
 rw [hm] at e
 cases e;rfl
namespace top
def tw2601905985415302144:=True
def tw11582926029173025856:=True
def tw8069049012094873728:=True
def tw14142502885225118848:=True
def tw984902984118615328:=True
def tw13370185576492129568:=True
def tw2218668502564051296:=True
def tw15542334942015070624:=True
def tw13160728816969591200:=True
def tw13223034962123697568:=True
def tw14168018189251442112:=True
def tw17009415399725018624:=True
def tw4597200072644226624:=True
def tw2417791160451022400:=True
def tw1732150942055357024:=True
def tw2741389259953327712:=True
def tw76412952228603488:=True
def tw15874363893724204672:=True
def tw1971433849790844608:=True
def tw7847650389618582240:=True
def tw3474246075231452896:=True
def tw16104615914030681952:=True
def tw17953984050398360512:=True
def tw11613256710310857696:=True
def tw12599067730712567776:=True
def tw2847958352784047137:=True
def tw9666326922614434849:=True
def tw17795014544551873601:=True
def tw7761843605638006849:=True
def tw1400011881503588481:=True
def tw7213333562754528385:=True
def tw8507776931139520737:=True
def tw2770563814800254177:=True
def tw1068965626710143233:=True
def tw4859757453598101857:=True
def tw1584292188352093569:=True
def tw18289109515434150305:=True
def tw3012798349882047937:=True
def tw13985988839938425345:=True
def tw15177526630643400193:=True
def tw9825436776141319713:=True
def tw11377482038585738817:=True
def tw12643520174271941249:=True
def tw11045010717311733409:=True
def tw6381231289166406305:=True
def tw11845233108574324481:=True
def tw1601500998369573665:=True
def tw9016798869158615873:=True
def tw462939625794472801:=True
def tw3696473221133414273:=True
def tw10005945817407372193:=True
def tw5303079699428457377:=True
def tw9272544492142499777:=True
def tw4856909995586565122:=True
def tw5647976800219259906:=True
def tw2405475915293451298:=True
def tw15508944514630427714:=True
def tw9601329371697537090:=True
def tw4177254973167742082:=True
def tw2029088862249889922:=True
def tw5552270689369575618:=True
def tw728428047077509346:=True
def tw3217022616335106338:=True
def tw6756851087969907010:=True
def tw2972514686349903234:=True
def tw16580785732701462914:=True
def tw13922054642007902626:=True
def tw2670627174450433442:=True
def tw3767615275625035234:=True
def tw1291508964198565346:=True
def tw17545328352263074274:=True
def tw1016984595167383106:=True
def tw11620634932572840514:=True
def tw15254643099363442306:=True
def tw4258143625173308034:=True
def tw9739860059890490050:=True
def tw5728218623943512802:=True
def tw7538252964068480738:=True
def tw12425085872883035938:=True
def tw4392038535549328194:=True
def tw17103177528636943170:=True
def tw16878204669230926818:=True
def tw2988451766255067171:=True
def tw14263998999751124003:=True
def tw8321918168302905379:=True
def tw2665807947273092163:=True
def tw14235281626263879747:=True
def tw9961057766049560675:=True
def tw9503340733035011235:=True
def tw10414433010598505635:=True
def tw13990698242589431971:=True
def tw8311017846404947139:=True
def tw6761616313442571491:=True
def tw4010397242664982755:=True
def tw15696354942287192291:=True
def tw15073315481182737699:=True
def tw15269079648320921891:=True
def tw15687709949711836451:=True
def tw3704924817259034979:=True
def tw1212798325632107971:=True
def tw10936122117785486979:=True
def tw3871027444623705763:=True
def tw17474498911051797155:=True
def tw15008207993883188931:=True
def tw9149571693438533347:=True
def tw14632489290957082403:=True
def tw15740088241188596515:=True
def tw14796646475526232899:=True
def tw13305523845174962083:=True
def tw16054190913257422852:=True
def tw7847352863974893604:=True
def tw14608685727046917156:=True
def tw2287823674025257028:=True
def tw15740948416001004644:=True
def tw6292954644110606532:=True
def tw12787338502077490372:=True
def tw15212760480394562756:=True
def tw16734371015571099844:=True
def tw8281120267493503204:=True
def tw14450715343900746980:=True
def tw13710211086531791108:=True
def tw3831216023754155268:=True
def tw10694878333477680388:=True
def tw401921906979044612:=True
def tw16541100652227675460:=True
def tw146815374380898660:=True
def tw14987219478266130788:=True
def tw7033079012710635876:=True
def tw1717825165581474212:=True
def tw8672883130414831044:=True
def tw7817637940432870852:=True
def tw16058212318047004132:=True
def tw12764151676501842404:=True
def tw15525995667512963556:=True
def tw370947364307004932:=True
def tw13012589842206080548:=True
def tw14459580976405569124:=True
def tw12483720753089274532:=True
def tw13896958669275611876:=True
def tw814325599930780420:=True
def tw18064794426631996164:=True
def tw65185946172857156:=True
def tw4292522238394942308:=True
def tw4656485037274611717:=True
def tw16120041803238788101:=True
def tw15646934709686841381:=True
def tw17810072253543177317:=True
def tw6505410396798821541:=True
def tw4691186174975459493:=True
def tw3796891538752321733:=True
def tw15470379304558344453:=True
def tw8892184565913893157:=True
def tw2685012915969955173:=True
def tw9227541089923242437:=True
def tw12210559395081530917:=True
def tw3976154599441133093:=True
def tw81815255157605957:=True
def tw196536941598035525:=True
def tw8107277231737898597:=True
def tw7313339093194340965:=True
def tw8212240652046128837:=True
def tw9059832203979395877:=True
def tw9685713192446186341:=True
def tw8363718466572441477:=True
def tw11592465598724292549:=True
def tw3669314199184481253:=True
def tw1294077662247117797:=True
def tw4840481374290595910:=True
def tw3570499242123996262:=True
def tw12879618353801967718:=True
def tw16736118626332596326:=True
def tw6520327441239513222:=True
def tw13501252493785611398:=True
def tw3140898538269762758:=True
def tw5590232498371695878:=True
def tw11383000496634168614:=True
def tw297971269722091814:=True
def tw6749217079512962374:=True
def tw14645912567700417926:=True
def tw8435561252592420358:=True
def tw5969682004907312646:=True
def tw8640399195822439974:=True
def tw14042817526060737062:=True
def tw10617020205504526918:=True
def tw18186074749648716422:=True
def tw8420165910927482534:=True
def tw1736530178072539846:=True
def tw7715697345341360870:=True
def tw15839697237665914598:=True
def tw9614876229902214918:=True
def tw14526540143163920134:=True
def tw4835499133494076262:=True
def tw8985709366574770022:=True
def tw5860347150701562758:=True
def tw2506305409684761478:=True
def tw10783980745131425670:=True
def tw8679839319945467846:=True
def tw10467260515200827399:=True
def tw3195968871104189447:=True
def tw16840627104734473223:=True
def tw11189890337720088615:=True
def tw6491118196486620199:=True
def tw860223938195835975:=True
def tw11459358961799972967:=True
def tw12256363837256957063:=True
def tw953821971998124167:=True
def tw8043003576528973991:=True
def tw53344730913325255:=True
def tw11443710868159068359:=True
def tw1697544655201012999:=True
def tw6459276657848829223:=True
def tw9759319705405543751:=True
def tw6176384092110617959:=True
def tw2731995056826638727:=True
def tw8316086182361765287:=True
def tw6286779285267259847:=True
def tw14214845130331304391:=True
def tw9165953624949470791:=True
def tw12545222027267286695:=True
def tw6883741973766446791:=True
def tw1209819496270969543:=True
def tw10864713392326063847:=True
def tw13968125046926948103:=True
def tw13090165191389475591:=True
def tw5186518429493523239:=True
def tw775762912060472103:=True
def tw12819366960792805191:=True
def tw13385244156195431271:=True
def tw10361075674979980167:=True
def tw3581848524822189991:=True
def tw2859833716702649255:=True
def tw12317137736924338119:=True
def tw14145802354927516647:=True
def tw7657828476027519975:=True
def tw5244899138074338376:=True
def tw3484022092364678248:=True
def tw16982378080980825192:=True
def tw13994475860397038760:=True
def tw10643057118474118344:=True
def tw372481440892306632:=True
def tw14615657086365298920:=True
def tw16439428074185983240:=True
def tw13864677062968915208:=True
def tw708234853630380328:=True
def tw2685745773621513544:=True
def tw5240389563564037448:=True
def tw3261557481417251176:=True
def tw4205137553216949640:=True
def tw18063644159110109576:=True
def tw83393220934416808:=True
def tw6370870915552960936:=True
def tw1486479319815781832:=True
def tw12622177474791663080:=True
def tw9723989250521069032:=True
def tw16414630628198896168:=True
def tw12638030207367898728:=True
def tw10657950659306570408:=True
def tw5667650583090716360:=True
def tw6460121766331871944:=True
def tw10648311167861321448:=True
def tw2249405535684624136:=True
def tw594810645892935528:=True
def tw6042063481754889096:=True
def tw4916261283513009128:=True
def tw6906291655842520137:=True
def tw13177472732611162249:=True
def tw2047500489365003465:=True
def tw15878805988109762761:=True
def tw15860264024139754761:=True
def tw13303987763403120937:=True
def tw12287887523310495049:=True
def tw3909029901177050473:=True
def tw17103585973383926153:=True
def tw2580922434103091657:=True
def tw6786057226368545225:=True
def tw16123964013534891561:=True
def tw4555866861457887817:=True
def tw15569959144833144457:=True
def tw13290321428070320777:=True
def tw16782997733028217545:=True
def tw8637452081102412489:=True
def tw12625694945159114441:=True
def tw7845129631348957993:=True
def tw657111498738832265:=True
def tw3087888393795971977:=True
def tw9326722878772556681:=True
def tw3378803678994701225:=True
def tw17788931634197215145:=True
def tw516228168201391017:=True
def tw4671429814451907529:=True
def tw7855079511596107753:=True
def tw10915162052029792233:=True
def tw2770239361232196585:=True
def tw13187519465064655849:=True
def tw8622502720953521162:=True
def tw9990226795618131978:=True
def tw12340227926317113386:=True
def tw339143206060000330:=True
def tw2732273902793177162:=True
def tw8729362747519067210:=True
def tw3315250197877816394:=True
def tw16674975167109581930:=True
def tw9059672392935016618:=True
def tw12166907935582030026:=True
def tw10187724287525710026:=True
def tw8523463495250067690:=True
def tw7204493036743257322:=True
def tw14317375437502057738:=True
def tw9233715247699887402:=True
def tw5483185372664623402:=True
def tw15988258018655671626:=True
def tw5058314954733539658:=True
def tw342308947776675178:=True
def tw6885214360128481674:=True
def tw501154541418245514:=True
def tw14372152842798730730:=True
def tw15976228082101565994:=True
def tw2369445192022557226:=True
def tw11189275148372222570:=True
def tw8184561461823581802:=True
def tw17085176360113175178:=True
def tw7717162694582976202:=True
def tw9919435345466941130:=True
def tw17469865338272021226:=True
def tw13889309363888878346:=True
def tw16068562728529669930:=True
def tw1142465760834251562:=True
def tw1655259298481077034:=True
def tw1321871150748368714:=True
def tw14724332232928298890:=True
def tw8443935842833279946:=True
def tw9951221954081769418:=True
def tw5513142621748847562:=True
def tw6624316729101989866:=True
def tw14248925298954806443:=True
def tw6919701780365589675:=True
def tw13370750898655102155:=True
def tw2683898200743741643:=True
def tw4828031223510198475:=True
def tw3002795768020413707:=True
def tw10328360990557673835:=True
def tw8598144960395782539:=True
def tw6812286434817487243:=True
def tw13706816188851595723:=True
def tw6430265229019958763:=True
def tw7587601194962177611:=True
def tw6674990990233134667:=True
def tw16415559393655328363:=True
def tw10252623693936335467:=True
def tw13272337422414781067:=True
def tw1522322319653140107:=True
def tw8140125068956082859:=True
def tw7829887443442302667:=True
def tw956942650209027819:=True
def tw17315540178315561739:=True
def tw7673058066778466091:=True
def tw14282377253939248939:=True
def tw15271675978053873483:=True
def tw17774833976778514315:=True
def tw9233335307524088747:=True
def tw13713866747541496747:=True
def tw9227057690007400460:=True
def tw10871174231137468428:=True
def tw5915399644114372684:=True
def tw5220643992179349772:=True
def tw15744752440731449612:=True
def tw2443449257678562572:=True
def tw17470836177267949868:=True
def tw5609151216138764652:=True
def tw9833397302626899308:=True
def tw17046948494117081484:=True
def tw3331421620988305804:=True
def tw3969286963782609292:=True
def tw5240762971458559404:=True
def tw13799840507378627052:=True
def tw6333448901615975916:=True
def tw9195894827357321740:=True
def tw6503730183909636620:=True
def tw93012567124736588:=True
def tw11542710104232473196:=True
def tw17781115878593249900:=True
def tw3254097082911018636:=True
def tw12958664272152378060:=True
def tw4951766788466123468:=True
def tw16240068400928781132:=True
def tw10404823597219466188:=True
def tw17323899518341599180:=True
def tw2365566498512967660:=True
def tw6240723676877644813:=True
def tw372964977893139469:=True
def tw14453841093610474573:=True
def tw15383718091736126541:=True
def tw16174758807025615021:=True
def tw7527032243904285869:=True
def tw15263588190386753709:=True
def tw17135812771915316397:=True
def tw3846862658102513837:=True
def tw16352630495959832749:=True
def tw17555251805378815213:=True
def tw7744093853086628109:=True
def tw1112988674713690477:=True
def tw15125931889511115149:=True
def tw3479634599624807885:=True
def tw3715792687998586317:=True
def tw4047667213573674445:=True
def tw18062624165398249997:=True
def tw10774637447528242797:=True
def tw283044589724301:=True
def tw4940147422707163885:=True
def tw16719718919923625709:=True
def tw2581206410525282061:=True
def tw1814787853859245837:=True
def tw12080426169559351053:=True
def tw17964300760807480141:=True
def tw8265191368974092141:=True
def tw672699306608606093:=True
def tw661290744650703789:=True
def tw1516213087968936877:=True
def tw12427389293880184781:=True
def tw13191473780850816973:=True
def tw13318506193475082254:=True
def tw7439886461454727182:=True
def tw14502225709538309166:=True
def tw2104741419117168686:=True
def tw12385144161495827662:=True
def tw6203543418390704334:=True
def tw2809488002615124206:=True
def tw8472579005086612782:=True
def tw12209182163369298222:=True
def tw15451780782824253742:=True
def tw7297446738713254254:=True
def tw5476889619067714990:=True
def tw2544169868661182894:=True
def tw6916252892733821390:=True
def tw12894197372075662830:=True
def tw2462062305354472974:=True
def tw1142415686869020238:=True
def tw15240379268576122478:=True
def tw1803303928475200142:=True
def tw6124053682588569230:=True
def tw14611434983143301774:=True
def tw10362775142378211054:=True
def tw17542608870123051758:=True
def tw1502757046609971022:=True
def tw10367675484739944270:=True
def tw15299407806266782574:=True
def tw12718909917080609646:=True
def tw15503665604740900718:=True
def tw12958502747184954254:=True
def tw3453223234828964814:=True
def tw15985961358823992270:=True
def tw5938664839603501006:=True
def tw17176029603704830031:=True
def tw18185382058313985135:=True
def tw6898770573198911631:=True
def tw6156568016551699631:=True
def tw11334350811105764591:=True
def tw1638113669730673903:=True
def tw1123975283337734383:=True
def tw14697636140705633519:=True
def tw17565814175750979855:=True
def tw8560541052185303311:=True
def tw381845443943030031:=True
def tw16900427199656544559:=True
def tw9631074621892390191:=True
def tw2707679213066786127:=True
def tw5596365628329696591:=True
def tw4655869559712951663:=True
def tw7737320934136571279:=True
def tw7198060816514059695:=True
def tw13326734554550294991:=True
def tw9913501989792142831:=True
def tw16809779246217341487:=True
def tw11779653239440661071:=True
def tw9590735534726013551:=True
def tw11145643937294416527:=True
def tw2103985501979894447:=True
def tw8369368087495890639:=True
def tw5581607755468803823:=True
def tw46980244435833615:=True
def tw10567129059001840431:=True
def tw10296497611174029103:=True
def tw11762496359356365647:=True
def tw2126296398998916975:=True
def tw352232786441526191:=True
def tw9378254376102152143:=True
def tw1559226430018442191:=True
def tw1040915598704419856:=True
def tw4186445540838780016:=True
def tw1843344800811705456:=True
def tw2145171640123136144:=True
def tw12392516345856041104:=True
def tw6893477703608230032:=True
def tw390997316461189296:=True
def tw3664424711883983056:=True
def tw5235370132326077648:=True
def tw11982747722937265360:=True
def tw8538268897159353584:=True
def tw7414872774492366064:=True
def tw10295577414725001488:=True
def tw10276331973627342096:=True
def tw104434173382791472:=True
def tw9382581127745807760:=True
def tw2009410202504348048:=True
def tw1585457916280141200:=True
def tw5341934141677670832:=True
def tw8735323631387419056:=True
def tw16044733080236030384:=True
def tw7444641836354208208:=True
def tw17576949682797635024:=True
def tw2752453847809088016:=True
def tw7273676953221729872:=True
def tw602653604445443664:=True
def tw2968346561183084112:=True
def tw14537839394382259888:=True
def tw8410488445778877200:=True
def tw7600245330811189008:=True
def tw15095372191486117680:=True
def tw12342655685612074800:=True
def tw14861896470697024400:=True
def tw12507017104952529904:=True
def tw8393700709775954928:=True
def tw10964019828756983889:=True
def tw7429413206186439793:=True
def tw6196800358849779857:=True
def tw2926424126403749041:=True
def tw3820434133910038737:=True
def tw18086089286151905521:=True
def tw6143595290313323761:=True
def tw10996937224433265937:=True
def tw1245559373397905713:=True
def tw8547604310838440241:=True
def tw7250933059871147345:=True
def tw8297286125493194097:=True
def tw14597223018079223185:=True
def tw8823455108540655025:=True
def tw7913636548009798097:=True
def tw17828378304095215089:=True
def tw8204474986945543665:=True
def tw11457754044182789617:=True
def tw2835187731363253809:=True
def tw7522852383072776753:=True
def tw2630061898475652689:=True
def tw8693662901424576113:=True
def tw1706793611546318481:=True
def tw663735360317578897:=True
def tw14301671488300290737:=True
def tw9166809390415177425:=True
def tw5225153198818245361:=True
def tw2446451932059125521:=True
def tw9335426496214029073:=True
def tw13307591127769906961:=True
def tw18008055252877512497:=True
def tw4158126171336067921:=True
def tw2822501910515967889:=True
def tw4076138812419527698:=True
def tw10836530967397901330:=True
def tw12564220515667953714:=True
def tw987869383939708018:=True
def tw16597617366809209970:=True
def tw9259421805112917234:=True
def tw2287362676942042354:=True
def tw3855276242980373810:=True
def tw2907113945770861938:=True
def tw15877122091014420850:=True
def tw14657780768301432306:=True
def tw6468107147075657394:=True
def tw132903981291199154:=True
def tw16866024460163772082:=True
def tw427420600052151026:=True
def tw8645369167282567922:=True
def tw705360758644809490:=True
def tw9328819404386307858:=True
def tw14399976873020721970:=True
def tw13261893007816960818:=True
def tw3357215229441099570:=True
def tw10987319290404115282:=True
def tw15092371282622821202:=True
def tw12540527436937284434:=True
def tw10090393231696489298:=True
def tw4232285709927190386:=True
def tw8025738503920905074:=True
def tw2619622883677149074:=True
def tw8148004212497801138:=True
def tw4699463449715708850:=True
def tw17177869089781658578:=True
def tw1483126911874232274:=True
def tw16795567611416646642:=True
def tw887695700811335699:=True
def tw10760901731976001555:=True
def tw4571971715460732019:=True
def tw5507162329139097715:=True
def tw9229161468869434483:=True
def tw2007660962349395123:=True
def tw16204670001084760307:=True
def tw13432635357386499347:=True
def tw11141966352661209427:=True
def tw5088376156974544275:=True
def tw11133666699803404755:=True
def tw6662652255960138227:=True
def tw729201693064108563:=True
def tw5398424786039705171:=True
def tw4301304718204425811:=True
def tw1275901062530889299:=True
def tw13420762306968818387:=True
def tw16612331741718818515:=True
def tw877433047237710547:=True
def tw9843949296442739443:=True
def tw7160873610591055699:=True
def tw8874702517807110003:=True
def tw1492452104121835379:=True
def tw7743179893348639699:=True
def tw17486766287000646611:=True
def tw2758071753971750899:=True
def tw12643491718579748851:=True
def tw4526881389914513428:=True
def tw1676862907878916244:=True
def tw15918733279669447828:=True
def tw13975414291046593716:=True
def tw16509065781470453940:=True
def tw16342770487823414484:=True
def tw12415523145999629524:=True
def tw1394568958698188020:=True
def tw9442318146202087700:=True
def tw84136930442132756:=True
def tw14789260269991461300:=True
def tw7799483888651840948:=True
def tw7079599612431449588:=True
def tw17022078359063049780:=True
def tw8800459187187324500:=True
def tw11760055953109336660:=True
def tw1617357707322924660:=True
def tw1284575025550258836:=True
def tw4159251561096739476:=True
def tw11922380849998532372:=True
def tw1897025099450329940:=True
def tw16759092144687519636:=True
def tw6694047246710070196:=True
def tw6265701101103706036:=True
def tw13983857475226248213:=True
def tw5225916559131626549:=True
def tw4784893810139332661:=True
def tw10577272966987657301:=True
def tw2686433634493928565:=True
def tw4796303294375832693:=True
def tw2924597203103170677:=True
def tw6664487174759623829:=True
def tw11994683656316670133:=True
def tw13047834502658803893:=True
def tw10562855833978642645:=True
def tw7008692893051332821:=True
def tw5650531946781329621:=True
def tw11468358511172941013:=True
def tw18374746225686918389:=True
def tw14402358008270493973:=True
def tw4791253341166991637:=True
def tw8817415213059835157:=True
def tw13549259019975226677:=True
def tw11960245374511038805:=True
def tw859137505422859605:=True
def tw1988063486488863061:=True
def tw7386116660499605909:=True
def tw2220570432770164149:=True
def tw575894324575664597:=True
def tw4213018616267185653:=True
def tw18371284783138465269:=True
def tw11203750815551599093:=True
def tw72247145696351765:=True
def tw16034636559557993077:=True
def tw10797620697341660853:=True
def tw4058662728301269685:=True
def tw864819663365544661:=True
def tw10242591131026960117:=True
def tw13345470168829271861:=True
def tw9854310039474760501:=True
def tw5196900775432865589:=True
def tw350670483859837877:=True
def tw18367679650794681301:=True
def tw17342085116792181814:=True
def tw8813761850579938390:=True
def tw14705559076539443318:=True
def tw13044034144603486326:=True
def tw9800703332001039478:=True
def tw8265311939077410998:=True
def tw10801874191123338550:=True
def tw5597187220613765494:=True
def tw17346259052997144950:=True
def tw11116745826364501430:=True
def tw5648408011753718230:=True
def tw13264354339760550358:=True
def tw15362295582089109014:=True
def tw11159431927160009238:=True
def tw9366391650621772374:=True
def tw15638586536077026902:=True
def tw15169761463676818070:=True
def tw8694864300669457046:=True
def tw17050326753033342646:=True
def tw1195175773429642966:=True
def tw4166218997396506358:=True
def tw6935293881099351830:=True
def tw8657480035899644758:=True
def tw3584897518013459382:=True
def tw10954954138603546550:=True
def tw2985252069258134486:=True
def tw10194810499950245846:=True
def tw6438537300738474071:=True
def tw11053662475850362967:=True
def tw14466935161476858967:=True
def tw17492772389151264855:=True
def tw620129878449983639:=True
def tw4052878762203253943:=True
def tw7458633546980236471:=True
def tw16885616592811714743:=True
def tw12318557346453588183:=True
def tw7204998973626084599:=True
def tw372274921031740727:=True
def tw3712731000106771831:=True
def tw9332579688445097367:=True
def tw7381879191629600215:=True
def tw3120133295221510679:=True
def tw9576743257966636567:=True
def tw2312856594315299383:=True
def tw16264823338695392855:=True
def tw4299629679881509495:=True
def tw15349318334595610263:=True
def tw12182655422080760471:=True
def tw8143265674769528471:=True
def tw8139039716903228087:=True
def tw12012865196380796599:=True
def tw11182792499502018295:=True
def tw7830913209206220567:=True
def tw15722756333993289495:=True
def tw9238823003894178615:=True
def tw3561193834555079511:=True
def tw11520865232209809239:=True
def tw5868845118606482295:=True
def tw5245862010334584759:=True
def tw4331257952254489624:=True
def tw17594962761535629368:=True
def tw9843447840031818808:=True
def tw10008474027749305400:=True
def tw11199710921928265848:=True
def tw1139600151236580504:=True
def tw681777741448182936:=True
def tw18134043772397237400:=True
def tw6383614241601562808:=True
def tw6623532728838073528:=True
def tw6487610083215253720:=True
def tw9063741608606530840:=True
def tw2812155379371279736:=True
def tw16262243036561855896:=True
def tw18326957874037197240:=True
def tw4498253355057717688:=True
def tw12783364522390391256:=True
def tw4551080515912023512:=True
def tw6211089042160764376:=True
def tw13500427573557490136:=True
def tw9768079942903668216:=True
def tw8107780213005350392:=True
def tw2617719716777270872:=True
def tw1149218181149386328:=True
def tw8810280945414196856:=True
def tw18164388396756303480:=True
def tw8237333600419904120:=True
def tw6746510453823603384:=True
def tw1592229195962567352:=True
def tw16713831800681072344:=True
def tw6572447435987645144:=True
def tw2617181576586992344:=True
def tw9516688046558066552:=True
def tw17886615442053742456:=True
def tw2722852734226103192:=True
def tw6583040956863952856:=True
def tw15245507539482535896:=True
def tw5790966258338625528:=True
def tw5889316905344633881:=True
def tw11546936639936008217:=True
def tw6908635100366463001:=True
def tw11337914350277664825:=True
def tw16273406610938067001:=True
def tw17030962893124633753:=True
def tw2596539476470345881:=True
def tw4695670854781333657:=True
def tw10001883323181062329:=True
def tw13359135706311490777:=True
def tw11072019736110318841:=True
def tw13385996262653078937:=True
def tw15799541711010589177:=True
def tw9851269098105209369:=True
def tw17741875731164886585:=True
def tw14349089067433371257:=True
def tw18394268562011335289:=True
def tw8620165645458168473:=True
def tw795583310449317561:=True
def tw6189502492464219833:=True
def tw3874152929960365753:=True
def tw17735899436944072409:=True
def tw11466170419677230873:=True
def tw16325430554902658873:=True
def tw9178861053002065721:=True
def tw1670607248958778201:=True
def tw6659320528611288953:=True
def tw16196420915677631385:=True
def tw1147548669246485465:=True
def tw17395277212465857529:=True
def tw5176459694589498394:=True
def tw6973401727384321114:=True
def tw7681529838311687354:=True
def tw17620759639134147866:=True
def tw10079171474624433434:=True
def tw1047907039808853306:=True
def tw14823308797102314842:=True
def tw3195522803047326042:=True
def tw10448899703829047738:=True
def tw411662067469150650:=True
def tw9673933992889287130:=True
def tw2047080938173012442:=True
def tw17807222030613408314:=True
def tw5105846836358774362:=True
def tw1108800333578037850:=True
def tw8912170899635468890:=True
def tw5702910450625016506:=True
def tw7215319984434753242:=True
def tw16420938139371093754:=True
def tw3143785405151724282:=True
def tw6075534854705499898:=True
def tw12105128591322288922:=True
def tw17219337458794519322:=True
def tw12379415707883124570:=True
def tw1886144042066472794:=True
def tw4713442408853163898:=True
def tw2675166985342186458:=True
def tw99440450732166138:=True
def tw13068111086705522682:=True
def tw427269002284569659:=True
def tw10187264123177260123:=True
def tw4773702212245658779:=True
def tw14983691940233647259:=True
def tw4002441696211005659:=True
def tw12559286593441436923:=True
def tw17089494485692210459:=True
def tw16836452506482946331:=True
def tw17981982808018919739:=True
def tw995497684801637723:=True
def tw1353657120722975067:=True
def tw4250876409542091131:=True
def tw10017263926548143515:=True
def tw15911569825323301435:=True
def tw5970215366352900667:=True
def tw4134505453457115739:=True
def tw3422688185749166683:=True
def tw16800595933775061595:=True
def tw16821654228018055803:=True
def tw3337584539547039419:=True
def tw7059692629156357883:=True
def tw11858546649754279707:=True
def tw11131206648525784891:=True
def tw9152664641465651067:=True
def tw6127594578889010139:=True
def tw1192657577511650299:=True
def tw12520176845478516731:=True
def tw13120753694373217308:=True
def tw1169771345039838236:=True
def tw13134186033006778460:=True
def tw11334415319851112604:=True
def tw3465488137227279516:=True
def tw5523086135645875356:=True
def tw6912233166142098652:=True
def tw18245740138792012028:=True
def tw15286249088069653756:=True
def tw2377541652452675900:=True
def tw11593399256984752444:=True
def tw14826035006057030972:=True
def tw17709558473723601244:=True
def tw13928562000808390012:=True
def tw18200808041648558556:=True
def tw1869187583165140508:=True
def tw12376051458212225564:=True
def tw13802547742096326172:=True
def tw4321519831107876412:=True
def tw14917401599646851644:=True
def tw8689318265317240412:=True
def tw10195997230039290492:=True
def tw2727672472851901052:=True
def tw4807692442873511580:=True
def tw13890846271309207196:=True
def tw16453443671601555132:=True
def tw216529984938456764:=True
def tw1088946173253831356:=True
def tw15361541807878343388:=True
def tw4250950275838387964:=True
def tw16007503158450755388:=True
def tw1124271682379634556:=True
def tw18034075008235765660:=True
def tw4547018644641229820:=True
def tw956089473029861405:=True
def tw568400683779154973:=True
def tw11240886729373846589:=True
def tw1186331607622873149:=True
def tw6733462575251390621:=True
def tw7475746777092488413:=True
def tw5155950481276406077:=True
def tw12488038555639769405:=True
def tw2782073688633401757:=True
def tw6287420888163001789:=True
def tw668136137496459709:=True
def tw13595526888421621181:=True
def tw16971255111065830877:=True
def tw2057334267981633021:=True
def tw5692499903750754813:=True
def tw17355269125676882429:=True
def tw13820912127525551613:=True
def tw13899568491130100285:=True
def tw10773188271377071773:=True
def tw7325726471975496349:=True
def tw16155163154822807229:=True
def tw11430207588045935325:=True
def tw18177719399980262173:=True
def tw3730354652608582461:=True
def tw17683472795295644477:=True
def tw12609604535291364189:=True
def tw6135690747967739741:=True
def tw11423202765487971197:=True
def tw18121752080927795069:=True
def tw1833847959688406909:=True
def tw47109162367338493:=True
def tw14901070454687303710:=True
def tw13091174067606910046:=True
def tw18237780215024852062:=True
def tw8973803690348224638:=True
def tw14851680436948445374:=True
def tw14747140909534839006:=True
def tw8968299171318014206:=True
def tw6930518751129746686:=True
def tw9361663168868926718:=True
def tw12904532413392791838:=True
def tw10579768621468169598:=True
def tw4046864289407762814:=True
def tw9108098604805947806:=True
def tw2878843996050045342:=True
def tw6859976401760118174:=True
def tw10956490626425055710:=True
def tw788273225186049534:=True
def tw5118827330378232414:=True
def tw3486219094355674750:=True
def tw8455645898260960030:=True
def tw105208000716104510:=True
def tw13889484949932952446:=True
def tw8374938949443298174:=True
def tw2867133514656366558:=True
def tw5983031951866500094:=True
def tw15058813355848621054:=True
def tw2267912224990424062:=True
def tw14371913498598963198:=True
def tw14390669486469195807:=True
def tw5738303106652476479:=True
def tw1754339480302792767:=True
def tw4216006453145775199:=True
def tw7990429038631628895:=True
def tw17494340499879156831:=True
def tw11173010173815179391:=True
def tw2464713573024523455:=True
def tw6187478851450931391:=True
def tw14771320824794740959:=True
def tw10341860258655708415:=True
def tw13852830345959847167:=True
def tw18085771088847121727:=True
def tw2502181453436431679:=True
def tw9456006794991739263:=True
def tw11584198869435930015:=True
def tw11279390925490393535:=True
def tw9589608677651300831:=True
def tw314455870634268127:=True
def tw14762295962024373759:=True
def tw5766051744304087583:=True
def tw2514443458684651071:=True
def tw6448850889433096767:=True
def tw13167462122316868159:=True
def tw12762922103008790111:=True
def tw12094960947251128927:=True
def tw453181688931711583:=True
def tw8345894832289464959:=True
def tw17582957951858275007:=True
def tw8999917154711486175:=True
def tw649594095290182367:=True
def tw8170299122808406783:=True
def tw13369591340354186047:=True
def tw10399464001100048223:=True
def tw2965125352208521119:=True
def tw3207569582813703071:=True
def tw5839659824258004927:=True
def tw7436774141650363327:=True
def tw3548060758652744671:=True
def tw10277754626750093601:=True
end top
set_option Elab.async true
set_option maxHeartbeats 8000000 in
set_option tactic.hygienic true in
theorem top:PySem.Challenge.rw_pq0300_01.Holds:=by
 (w_on;o_law;k_head;(case hw=>w_witness2))
 intro w s₀ s₁ mg mb G Y fa o pm cd doc dV kV ho hd hcd hD hmg hg args vals as hpre hlay hrd hwl hlo
 have KX:=kIn_of Y
 have F:=kf_of KX ⟨by with_unfolding_all rfl,
   by with_unfolding_all rfl,
   by with_unfolding_all rfl,
   by with_unfolding_all rfl,
   by with_unfolding_all rfl,
   by with_unfolding_all rfl,
   by with_unfolding_all rfl,
   by with_unfolding_all rfl,
   by with_unfolding_all rfl,
   ⟨_,_,_,_,_,_,_,_,_,_,_,_,_,_,_,_,_,_,by with_unfolding_all rfl,PySem.F.excBase_Exception,by with_unfolding_all rfl,⟨_,by with_unfolding_all rfl⟩,Mine.strKeys_of (by with_unfolding_all rfl),by with_unfolding_all rfl⟩,
   by with_unfolding_all rfl,
   ⟨_,by with_unfolding_all rfl,by with_unfolding_all rfl⟩,
   .cons (.a rfl ⟨_,_,_,_,_,_,_,_,_,_,_,by with_unfolding_all rfl,by with_unfolding_all rfl⟩) <|
   .cons (.a rfl ⟨_,_,_,_,_,_,_,_,_,_,_,by with_unfolding_all rfl,by with_unfolding_all rfl⟩) <|
   .cons (.a rfl ⟨_,_,_,_,_,_,_,_,_,_,_,by with_unfolding_all rfl,by with_unfolding_all rfl⟩) <|
   .cons (.a rfl ⟨_,_,_,_,_,_,_,_,_,_,_,by with_unfolding_all rfl,by with_unfolding_all rfl⟩) <|
   .cons (.a rfl ⟨_,_,_,_,_,_,_,_,_,_,_,by with_unfolding_all rfl,by with_unfolding_all rfl⟩) <|
   .cons (.a rfl ⟨_,_,_,_,_,_,_,_,_,_,_,by with_unfolding_all rfl,by with_unfolding_all rfl⟩) <|
   .cons (.a rfl ⟨_,_,_,_,_,_,_,_,_,_,_,by with_unfolding_all rfl,by with_unfolding_all rfl⟩) <|
   .cons (.a rfl ⟨_,_,_,_,_,_,_,_,_,_,_,by with_unfolding_all rfl,by with_unfolding_all rfl⟩) <|
   .cons (.a rfl ⟨_,_,_,_,_,_,_,_,_,_,_,by with_unfolding_all rfl,by with_unfolding_all rfl⟩) <|
   .cons (.a rfl ⟨_,_,_,_,_,_,_,_,_,_,_,by with_unfolding_all rfl,by with_unfolding_all rfl⟩) <|
   .cons (.t ⟨_,_,_,_,_,_,_,_,_,_,_,_,by with_unfolding_all rfl,by with_unfolding_all rfl,fun s=>all3 fun y0 y1 y2 X=>⟨[.bool false],fun Z=>Mine.VRs.one rfl,kp_binds X fun S=>by with_unfolding_all rfl⟩⟩) <|
   .cons (.t ⟨_,_,_,_,_,_,_,_,_,_,_,_,by with_unfolding_all rfl,by with_unfolding_all rfl,fun s=>all2 fun y0 y1 X=>⟨[.bool false],fun Z=>Mine.VRs.one rfl,kp_binds X fun S=>by with_unfolding_all rfl⟩⟩) <|
   .cons (.a rfl ⟨_,_,_,_,_,_,_,_,_,_,_,by with_unfolding_all rfl,by with_unfolding_all rfl⟩) <|
   .cons (.t ⟨_,_,_,_,_,_,_,_,_,_,_,_,by with_unfolding_all rfl,by with_unfolding_all rfl,fun s=>all4 fun y0 y1 y2 y3 X=>⟨[.none],fun Z=>Mine.VRs.one rfl,kp_binds X fun S=>by with_unfolding_all rfl⟩⟩) <|
   .cons (.a rfl ⟨_,_,_,_,_,_,_,_,_,_,_,by with_unfolding_all rfl,by with_unfolding_all rfl⟩) <|
   .cons (.a rfl ⟨_,_,_,_,_,_,_,_,_,_,_,by with_unfolding_all rfl,by with_unfolding_all rfl⟩) <|
   .cons (.a rfl ⟨_,_,_,_,_,_,_,_,_,_,_,by with_unfolding_all rfl,by with_unfolding_all rfl⟩) <|
   .cons (.a rfl ⟨_,_,_,_,_,_,_,_,_,_,_,by with_unfolding_all rfl,by with_unfolding_all rfl⟩) <|
   .cons (.a rfl ⟨_,_,_,_,_,_,_,_,_,_,_,by with_unfolding_all rfl,by with_unfolding_all rfl⟩) <|
   .cons (.a rfl ⟨_,_,_,_,_,_,_,_,_,_,_,by with_unfolding_all rfl,by with_unfolding_all rfl⟩) <|
   .cons (.a rfl ⟨_,_,_,_,_,_,_,_,_,_,_,by with_unfolding_all rfl,by with_unfolding_all rfl⟩) <|
   .cons (.a rfl ⟨_,_,_,_,_,_,_,_,_,_,_,by with_unfolding_all rfl,by with_unfolding_all rfl⟩) <|
   .cons (.a rfl ⟨_,_,_,_,_,_,_,_,_,_,_,by with_unfolding_all rfl,by with_unfolding_all rfl⟩) <|
   .cons (.a rfl ⟨_,_,_,_,_,_,_,_,_,_,_,by with_unfolding_all rfl,by with_unfolding_all rfl⟩) <|
   .cons (.a rfl ⟨_,_,_,_,_,_,_,_,_,_,_,by with_unfolding_all rfl,by with_unfolding_all rfl⟩) <|
   .cons (.a rfl ⟨_,_,_,_,_,_,_,_,_,_,_,by with_unfolding_all rfl,by with_unfolding_all rfl⟩) <|
   .cons (.a rfl ⟨_,_,_,_,_,_,_,_,_,_,_,by with_unfolding_all rfl,by with_unfolding_all rfl⟩) <|
   .cons (.a rfl ⟨_,_,_,_,_,_,_,_,_,_,_,by with_unfolding_all rfl,by with_unfolding_all rfl⟩) <|
   .cons (.a rfl ⟨_,_,_,_,_,_,_,_,_,_,_,by with_unfolding_all rfl,by with_unfolding_all rfl⟩) <|
   .cons (.a rfl ⟨_,_,_,_,_,_,_,_,_,_,_,by with_unfolding_all rfl,by with_unfolding_all rfl⟩) <|
   .cons (.a rfl ⟨_,_,_,_,_,_,_,_,_,_,_,by with_unfolding_all rfl,by with_unfolding_all rfl⟩) <|
   .cons (.a rfl ⟨_,_,_,_,_,_,_,_,_,_,_,by with_unfolding_all rfl,by with_unfolding_all rfl⟩) <|
   .cons (.a rfl ⟨_,_,_,_,_,_,_,_,_,_,_,by with_unfolding_all rfl,by with_unfolding_all rfl⟩) <|
   .cons (.a rfl ⟨_,_,_,_,_,_,_,_,_,_,_,by with_unfolding_all rfl,by with_unfolding_all rfl⟩) <|
   .cons (.a rfl ⟨_,_,_,_,_,_,_,_,_,_,_,by with_unfolding_all rfl,by with_unfolding_all rfl⟩) <|
   .cons (.a rfl ⟨_,_,_,_,_,_,_,_,_,_,_,by with_unfolding_all rfl,by with_unfolding_all rfl⟩) <|
   .cons (.a rfl ⟨_,_,_,_,_,_,_,_,_,_,_,by with_unfolding_all rfl,by with_unfolding_all rfl⟩) <|
   .cons (.a rfl ⟨_,_,_,_,_,_,_,_,_,_,_,by with_unfolding_all rfl,by with_unfolding_all rfl⟩) <|
   .cons (.a rfl ⟨_,_,_,_,_,_,_,_,_,_,_,by with_unfolding_all rfl,by with_unfolding_all rfl⟩) <|
   .cons (.a rfl ⟨_,_,_,_,_,_,_,_,_,_,_,by with_unfolding_all rfl,by with_unfolding_all rfl⟩) <|
   .cons (.a rfl ⟨_,_,_,_,_,_,_,_,_,_,_,by with_unfolding_all rfl,by with_unfolding_all rfl⟩) <|
   .cons (.a rfl ⟨_,_,_,_,_,_,_,_,_,_,_,by with_unfolding_all rfl,by with_unfolding_all rfl⟩) <|
   .cons (.a rfl ⟨_,_,_,_,_,_,_,_,_,_,_,by with_unfolding_all rfl,by with_unfolding_all rfl⟩) <|
   .cons (.a rfl ⟨_,_,_,_,_,_,_,_,_,_,_,by with_unfolding_all rfl,by with_unfolding_all rfl⟩) <|
   .cons (.a rfl ⟨_,_,_,_,_,_,_,_,_,_,_,by with_unfolding_all rfl,by with_unfolding_all rfl⟩) <|
   .cons (.a rfl ⟨_,_,_,_,_,_,_,_,_,_,_,by with_unfolding_all rfl,by with_unfolding_all rfl⟩) <|
   .cons (.a rfl ⟨_,_,_,_,_,_,_,_,_,_,_,by with_unfolding_all rfl,by with_unfolding_all rfl⟩) <|
   .cons (.a rfl ⟨_,_,_,_,_,_,_,_,_,_,_,by with_unfolding_all rfl,by with_unfolding_all rfl⟩) <|
   .cons (.a rfl ⟨_,_,_,_,_,_,_,_,_,_,_,by with_unfolding_all rfl,by with_unfolding_all rfl⟩) <|
   .cons (.a rfl ⟨_,_,_,_,_,_,_,_,_,_,_,by with_unfolding_all rfl,by with_unfolding_all rfl⟩) <|
   .cons (.a rfl ⟨_,_,_,_,_,_,_,_,_,_,_,by with_unfolding_all rfl,by with_unfolding_all rfl⟩) <|
   .cons (.a rfl ⟨_,_,_,_,_,_,_,_,_,_,_,by with_unfolding_all rfl,by with_unfolding_all rfl⟩) <|
   .cons (.a rfl ⟨_,_,_,_,_,_,_,_,_,_,_,by with_unfolding_all rfl,by with_unfolding_all rfl⟩) <|
   .cons (.a rfl ⟨_,_,_,_,_,_,_,_,_,_,_,by with_unfolding_all rfl,by with_unfolding_all rfl⟩) <|
   .cons (.a rfl ⟨_,_,_,_,_,_,_,_,_,_,_,by with_unfolding_all rfl,by with_unfolding_all rfl⟩) <|
   .cons (.a rfl ⟨_,_,_,_,_,_,_,_,_,_,_,by with_unfolding_all rfl,by with_unfolding_all rfl⟩) <|
   .cons (.a rfl ⟨_,_,_,_,_,_,_,_,_,_,_,by with_unfolding_all rfl,by with_unfolding_all rfl⟩) <|
   .cons (.a rfl ⟨_,_,_,_,_,_,_,_,_,_,_,by with_unfolding_all rfl,by with_unfolding_all rfl⟩) <|
   .cons (.a rfl ⟨_,_,_,_,_,_,_,_,_,_,_,by with_unfolding_all rfl,by with_unfolding_all rfl⟩) <|
   .cons (.a rfl ⟨_,_,_,_,_,_,_,_,_,_,_,by with_unfolding_all rfl,by with_unfolding_all rfl⟩) <|
   .cons (.a rfl ⟨_,_,_,_,_,_,_,_,_,_,_,by with_unfolding_all rfl,by with_unfolding_all rfl⟩) <|
   .cons (.t ⟨_,_,_,_,_,_,_,_,_,_,_,_,by with_unfolding_all rfl,by with_unfolding_all rfl,fun s=>all3 fun y0 y1 y2 X=>⟨[.int 8 1095],fun Z=>Mine.VRs.one ⟨_,rfl⟩,kp_binds X fun S=>by with_unfolding_all rfl⟩⟩) <|
   .cons (.a rfl ⟨_,_,_,_,_,_,_,_,_,_,_,by with_unfolding_all rfl,by with_unfolding_all rfl⟩) <|
   .cons (.a rfl ⟨_,_,_,_,_,_,_,_,_,_,_,by with_unfolding_all rfl,by with_unfolding_all rfl⟩) <|
   .cons (.a rfl ⟨_,_,_,_,_,_,_,_,_,_,_,by with_unfolding_all rfl,by with_unfolding_all rfl⟩) <|
   .cons (.a rfl ⟨_,_,_,_,_,_,_,_,_,_,_,by with_unfolding_all rfl,by with_unfolding_all rfl⟩) <|
   .cons (.a rfl ⟨_,_,_,_,_,_,_,_,_,_,_,by with_unfolding_all rfl,by with_unfolding_all rfl⟩) <|
   .cons (.a rfl ⟨_,_,_,_,_,_,_,_,_,_,_,by with_unfolding_all rfl,by with_unfolding_all rfl⟩) <|
   .cons (.a rfl ⟨_,_,_,_,_,_,_,_,_,_,_,by with_unfolding_all rfl,by with_unfolding_all rfl⟩) <|
   .cons (.a rfl ⟨_,_,_,_,_,_,_,_,_,_,_,by with_unfolding_all rfl,by with_unfolding_all rfl⟩) <|
   .cons (.a rfl ⟨_,_,_,_,_,_,_,_,_,_,_,by with_unfolding_all rfl,by with_unfolding_all rfl⟩) <|
   .cons (.a rfl ⟨_,_,_,_,_,_,_,_,_,_,_,by with_unfolding_all rfl,by with_unfolding_all rfl⟩) <|
   .cons (.a rfl ⟨_,_,_,_,_,_,_,_,_,_,_,by with_unfolding_all rfl,by with_unfolding_all rfl⟩) <|
   .cons (.a rfl ⟨_,_,_,_,_,_,_,_,_,_,_,by with_unfolding_all rfl,by with_unfolding_all rfl⟩) <|
   .cons (.a rfl ⟨_,_,_,_,_,_,_,_,_,_,_,by with_unfolding_all rfl,by with_unfolding_all rfl⟩) <|
   .cons (.a rfl ⟨_,_,_,_,_,_,_,_,_,_,_,by with_unfolding_all rfl,by with_unfolding_all rfl⟩) <|
   .cons (.a rfl ⟨_,_,_,_,_,_,_,_,_,_,_,by with_unfolding_all rfl,by with_unfolding_all rfl⟩) <|
   .cons (.a rfl ⟨_,_,_,_,_,_,_,_,_,_,_,by with_unfolding_all rfl,by with_unfolding_all rfl⟩) <|
   .cons (.a rfl ⟨_,_,_,_,_,_,_,_,_,_,_,by with_unfolding_all rfl,by with_unfolding_all rfl⟩) <|
   .cons (.a rfl ⟨_,_,_,_,_,_,_,_,_,_,_,by with_unfolding_all rfl,by with_unfolding_all rfl⟩) <|
   .cons (.a rfl ⟨_,_,_,_,_,_,_,_,_,_,_,by with_unfolding_all rfl,by with_unfolding_all rfl⟩) <|
   .cons (.a rfl ⟨_,_,_,_,_,_,_,_,_,_,_,by with_unfolding_all rfl,by with_unfolding_all rfl⟩) <|
   .cons (.a rfl ⟨_,_,_,_,_,_,_,_,_,_,_,by with_unfolding_all rfl,by with_unfolding_all rfl⟩) <|
   .nil,
   .a rfl ⟨_,_,_,_,_,_,_,_,_,_,_,by with_unfolding_all rfl,by with_unfolding_all rfl⟩,
   ⟨_,_,_,_,_,_,_,_,_,_,_,by with_unfolding_all rfl,by with_unfolding_all rfl⟩,
   ⟨_,_,_,_,_,_,_,_,_,_,_,by with_unfolding_all rfl,by with_unfolding_all rfl⟩⟩
 refine Ground.open G ?_
 intro T B D TE TW
 try (refine guard_noD D (by decide +kernel) ?_;clear D)
 clear hd hcd
 have hfa:=law_at F KX T.g hmg
 subst hfa
 wrow_args hpre hlay hrd hwl hlo
 rename_i zs hs hlay0 hL1 hr1 hl2 w4 w3 a vs w0 hL ra hwell r0 hI hr hc1 hc0
 have hz:zs.length≤63:=by omega
 have GG:=globOk (prog:=PySem.Challenge.rw_pq0300_01.row.prog) (w:=w) F KX T.nolimit T.g T.b T.builtins
 refine wpAny_mono (runs (defs F GG) (lawDef F GG) hz hwell) (fun y s' h=>?_) fun u0 u0 h=>h
 obtain ⟨rfl,h1,h2,h3⟩:=h
 refine ⟨.inl ⟨_,.bool true,[],rfl,fun cls=>?_,?_,?_,fun u0=>⟨List.nodup_nil,fun u0 h=>nomatch h⟩⟩,.of_keep h1,h2,?_⟩
 ·rfl
 ·exact .bool _
 ·with_unfolding_all rfl
 ·rw [h3,hg];exact .of_eq rfl
end Mine
set_option Elab.async false
theorem PySem.Challenge.cw_pq0300_01_holds : PySem.Challenge.rw_pq0300_01.Holds :=
 Mine.top
