import Derived.Test.YtphkhfdmlcnoeaaGreatDoorP26
namespace Go.Proofs.YtphkhfdmlcnoeaaGreatDoor
set_option linter.unusedVariables false
set_option linter.unusedSimpArgs false
open Go.RowKit
def V2(st:Nat→Bool)(c:Nat):List Int:=((List.range c).filter st).map fun(j:Nat)=>(j:Int)
theorem Q6B{st:Nat→Bool}{c:Nat}(h:st c=true):V2 st c++[(c:Int)]=V2 st (c+1):=by
 unfold V2
 rw[List.range_succ,List.filter_append,List.map_append,List.filter_cons_of_pos h]
 rfl
theorem Qd6{st:Nat→Bool}{c:Nat}(h:st c=false):V2 st c=V2 st (c+1):=by
 unfold V2
 rw[List.range_succ,List.filter_append,List.map_append,List.filter_cons_of_neg (by rw[h];exact Bool.false_ne_true),List.filter_nil,List.map_nil,List.append_nil]
theorem QbC(st:Nat→Bool)(c:Nat):(V2 st c).length≤c:=by
 unfold V2
 rw[List.length_map];exact Nat.le_trans (List.length_filter_le _ _) (by simp)
def JH(F:List Rl)(k:Int):List Int:=V2 ((K8 F).getD k.toNat Zx) 256
theorem Qe7{w:World}{B b n k:Nat}{S:List (Nat→Bool)}(h:Rd w B 256 (some ⟨b,0,none⟩) n (X4 S))(hS:S.length=n)(hk:k<n):w.rangeAt b (0+k*256) (Xd (S.getD k Zx)):=fun q u hu=>by
 rw[Nat.add_assoc];exact h.cellAt (by omega) (Q0D S k (by omega) q u hu)
def Q0p(F:List Rl)(k:Int):List Int:=if Q2m F k=(0,0) then JH F k else []
theorem Qez{F:List Rl}{k:Int}(h:Q2m F k=(0,0)):QL F=(0,0)∧0≤k∧k<F.length:=by
 unfold Q2m at h
 split at h
 ·next hn=>exact absurd h hn
 ·next hn=>
  split at h
  ·next hi=>
   have:=Xr.1 hi;exact⟨Classical.byContradiction hn,by omega,by omega⟩
  ·cases h
theorem Q9E{F:List Rl}(h:QL F=(0,0)):XC F=(0,0):=by
 unfold QL at h
 split at h
 ·next hn=>exact absurd h hn
 ·next hn=>exact Classical.byContradiction hn
theorem Xm.below{w w':World}{B:Nat}{A:Option Addr}{n:Nat}{F:List Rl}(h:Xm w B A n F)(hb:Below B w w'):Xm w' B A n F:=
 ⟨h.1,fun h0=>by
  obtain⟨b,o,e,hB,hc⟩:=h.2 h0;refine⟨b,o,e,hB,fun i r hr=>?_⟩;obtain⟨sb,sn,sp,h1,h2⟩:=hc i r hr
  exact⟨sb,sn,sp,h1.below hb hB,h2.below hb⟩⟩
theorem Xm.more{w:World}{B B':Nat}{A:Option Addr}{n:Nat}{F:List Rl}(h:Xm w B A n F)(hB:B≤B'):Xm w B' A n F:=
 ⟨h.1,fun h0=>by
  obtain⟨b,o,e,hb,hc⟩:=h.2 h0;refine⟨b,o,e,by omega,fun i r hr=>?_⟩;obtain⟨sb,sn,sp,h1,h2⟩:=hc i r hr
  exact⟨sb,sn,sp,h1,h2.more hB⟩⟩
structure RuB(W:World)(B:Nat)(r:Rl)(Ab:Option Addr)(cb:Nat)(An:Option Addr)(cn:Nat)(Ap:Option Addr)(cp:Nat):Prop where
 cb:r.bs.length≤cb
 cn:r.names.length≤cn
 cp:r.parts.length≤cp
 b:Rd W B 1 Ab r.bs.length (bv r.bs)
 n:Rd W B 1 An r.names.length (sv r.names)
 p:Rd W B 1 Ap r.parts.length (iv r.parts)
theorem RuB.below{w w':World}{B:Nat}{r:Rl}{Ab An Ap:Option Addr}{cb cn cp:Nat}(h:RuB w B r Ab cb An cn Ap cp)(hb:Below B w w'):RuB w' B r Ab cb An cn Ap cp:=⟨h.cb,h.cn,h.cp,h.b.below hb,h.n.below hb,h.p.below hb⟩
theorem YN.listsB{w:World}{B:Nat}{r:Rl}{sb sn sp:Value}(h:YN w B r sb sn sp):∃Ab cb An cn Ap cp,sb=.slice Ab r.bs.length cb∧sn=.slice An r.names.length cn∧sp=.slice Ap r.parts.length cp∧RuB w B r Ab cb An cn Ap cp:=by
 obtain⟨Ab,nb,cb,An,nn,cn,Ap,np,cp,rfl,rfl,rfl,h1,h2,h3,h4,h5,h6⟩:=h
 have e1:r.bs.length=nb:=by have:=h4.len;rw[Xu] at this;exact this
 have e2:r.names.length=nn:=by have:=h5.len;unfold sv at this;rw[List.length_map] at this;exact this
 have e3:r.parts.length=np:=by have:=h6.len;rw[Ki] at this;exact this
 subst e1 e2 e3;exact⟨Ab,cb,An,cn,Ap,cp,rfl,rfl,rfl,h1,h2,h3,h4,h5,h6⟩
theorem Xm.ruleB{W:World}{B:Nat}{b o n:Nat}{F:List Rl}(h:Xm W B (some ⟨b,o,none⟩) n F){k:Int}(hk:0≤k∧k<n):b<B∧∃Ab cb An cn Ap cp,W.rangeAt b (o+k.toNat*12) (ruC (Qd F k) (.slice Ab (Qd F k).bs.length cb) (.slice An (Qd F k).names.length cn) (.slice Ap (Qd F k).parts.length cp))∧RuB W B (Qd F k) Ab cb An cn Ap cp:=by
 obtain⟨b',o',r,sb,sn,sp,e,hb,hr,hc,hs⟩:=h.at_ (i:=k.toNat) (by omega)
 cases e
 rw[Q5g hr];obtain⟨Ab,cb,An,cn,Ap,cp,rfl,rfl,rfl,hl⟩:=hs.listsB;exact⟨hb,Ab,cb,An,cn,Ap,cp,hc.range,hl⟩
def Q5V(w:World)(B:Nat)(F:List Rl)(A:Option Addr)(n:Nat):Prop:=∃b o,A=some ⟨b,o,none⟩∧b<B∧∀k,k<n→∃Ak ck,w.cell? ⟨b,o+k,none⟩=some (.slice Ak (JH F k).length ck)∧Rd w B 1 Ak (JH F k).length (iv (JH F k))∧(JH F k).length≤ck
theorem Q5V.below{w w':World}{B n:Nat}{F:List Rl}{A:Option Addr}(h:Q5V w B F A n)(hb:Below B w w'):Q5V w' B F A n:=by
 obtain⟨b,o,e,hB,hc⟩:=h;refine⟨b,o,e,hB,fun k hk=>?_⟩;obtain⟨Ak,ck,h1,h2,h3⟩:=hc k hk;exact⟨Ak,ck,(hb.cell (by exact hB)).trans h1,h2.below hb,h3⟩
theorem Q5V.more{w:World}{B B' n:Nat}{F:List Rl}{A:Option Addr}(h:Q5V w B F A n)(hB:B≤B'):Q5V w B' F A n:=by
 obtain⟨b,o,e,hb,hc⟩:=h;refine⟨b,o,e,by omega,fun k hk=>?_⟩;obtain⟨Ak,ck,h1,h2,h3⟩:=hc k hk;exact⟨Ak,ck,h1,h2.more hB,h3⟩
theorem Qcg{F:List Rl}{k:Int}{c:UInt8}:ZC (JH F k) (c.toNat:Int)=fir F k c:=by
 unfold ZC fir JH V2
 rw[Bool.eq_iff_iff,List.contains_iff_mem,List.mem_map]
 constructor
 ·rintro⟨j,hj,e⟩
  rw[List.mem_filter] at hj
  have:j=c.toNat:=by omega
  rw[← this];exact hj.2
 ·intro h;exact⟨c.toNat,List.mem_filter.2 ⟨List.mem_range.2 c.toNat_lt,h⟩,rfl⟩
structure Q0S(w:World)(B:Nat)(F:List Rl)(D:List UInt8)(Af As Ad:Option Addr)(n nd:Nat):Prop where
 fm:Xm w B Af n F
 fr:Q5V w B F As n
 dt:Rd w B 1 Ad nd (bv D)
theorem Q0S.below{w w':World}{B n nd:Nat}{F:List Rl}{D:List UInt8}{Af As Ad:Option Addr}(h:Q0S w B F D Af As Ad n nd)(hb:Below B w w'):Q0S w' B F D Af As Ad n nd:=⟨h.fm.below hb,h.fr.below hb,h.dt.below hb⟩
theorem Q0S.keep{w w':World}{B g n nd:Nat}{F:List Rl}{D:List UInt8}{Af As Ad:Option Addr}(h:Q0S w B F D Af As Ad n nd)(hB:B≤g)(hg:g<w.heap.size)(hk:XJ [g] w w'):Q0S w' B F D Af As Ad n nd:=
 h.below ⟨hk.os,hk.tape,hk.output,hk.size,fun k hk'=>hk.block k (by omega) (by simp;omega)⟩
theorem Q0S.len{w:World}{B n nd:Nat}{F:List Rl}{D:List UInt8}{Af As Ad:Option Addr}(h:Q0S w B F D Af As Ad n nd):D.length=nd∧F.length=n:=⟨by have:=h.dt.len;rw[Xu] at this;exact this,h.fm.1⟩
theorem Q73(a b:Nat)(ha:a<4611686018427387904)(hb:b<4611686018427387904):bits .or .i64 (a:Int) (b:Int)=((a|||b:Nat):Int):=by
 have hx:a|||b<2 ^ 62:=Nat.or_lt_two_pow (by omega) (by omega)
 have h1:(BitVec.ofInt 64 (a:Int)).toNat=a:=by
  rw[BitVec.ofInt_natCast,BitVec.toNat_ofNat];exact Nat.mod_eq_of_lt (by omega)
 have h2:(BitVec.ofInt 64 (b:Int)).toNat=b:=by
  rw[BitVec.ofInt_natCast,BitVec.toNat_ofNat];exact Nat.mod_eq_of_lt (by omega)
 show IntKind.i64.wrap ((BitVec.ofInt 64 (a:Int)|||BitVec.ofInt 64 (b:Int)).toNat:Int)=_
 rw[BitVec.toNat_or,h1,h2];exact IntWalk.i64_in _ (by omega)
theorem Qby{a b m:Int}(i:Nat)(hi:i≤60)(ha:a=2 ^ i*m)(hm:0≤m)(hb:0≤b∧b<2 ^ i)(h:a<4611686018427387904):bits .or .i64 a b=a+b:=by
 obtain⟨k,rfl⟩:∃k:Nat,m=(k:Int):=⟨m.toNat,by omega⟩;obtain⟨c,rfl⟩:∃c:Nat,b=(c:Int):=⟨b.toNat,by omega⟩
 have hc:c<2 ^ i:=by have:=hb.2;exact_mod_cast this
 have e:a=((2 ^ i*k:Nat):Int):=by rw[ha];push_cast;rfl
 have hp:(2:Nat) ^ i≤2 ^ 60:=Nat.pow_le_pow_right (by omega) hi;rw[e] at h ⊢;rw[Q73 _ _ (by omega) (by omega),← Nat.two_pow_add_eq_or_of_lt hc]
 push_cast
 rfl
theorem QdD{a b m:Int}(i:Nat)(hi:i≤60)(hb:b=2 ^ i*m)(hm:0≤m)(ha:0≤a∧a<2 ^ i)(h:b<4611686018427387904):bits .or .i64 a b=a+b:=by
 have:=Qby i hi hb hm ha h
 have e:bits .or .i64 a b=bits .or .i64 b a:=by
  unfold bits
  simp only
  rw[BitVec.or_comm]
 rw[e,this,Int.add_comm]
section
variable {P:Program}{ops:Array Oper}{C:World→Prop}{N:Nat}{E:Env}{o:Oper}{d:Nat}
theorem Qe3{x y:Operand}{t t':TypeId}{k:IntKind}{m n r:Int}(ho:o.op=.binOp .shl t x y t')(hd:o.dst=some d)(hN:d<N)(hw:Qj ops E o=some true)(hx:ev E x=some (.int .i64 m))(hy:ev E y=some (.int k n))(h0:0≤n∧n≤64)(hr:m*2 ^ n.toNat=r)(hb:-9223372036854775808≤r∧r≤9223372036854775807):oE P ops C N E ((d,.int .i64 r)::E) o:=
 Q0Q ho hd hN hw hx hy fun w=>by
  rw[binOp_shl,shift_shl_i64 (h₀:=h0.1) (h₁:=h0.2),hr,IntWalk.i64_in _ hb]
  rfl
theorem Qf3{x y:Operand}{t t':TypeId}{a b r:Int}(ho:o.op=.binOp .or t x y t')(hd:o.dst=some d)(hN:d<N)(hw:Qj ops E o=some true)(hx:ev E x=some (.int .i64 a))(hy:ev E y=some (.int .i64 b))(hr:bits .or .i64 a b=r):oE P ops C N E ((d,.int .i64 r)::E) o:=
 Q0Q ho hd hN hw hx hy fun w=>by
  rw[binOp_or,intBits_or,hr]
  rfl
end
theorem Q63(c:UInt8):∀l:List UInt8,leN (l++[c])=leN l+(c.toNat:Int)*256 ^ l.length
 |[]=>by simp [leN]
 |x::l=>by
  show (x.toNat:Int)+256*leN (l++[c])=(x.toNat:Int)+256*leN l+(c.toNat:Int)*256 ^ (l.length+1)
  rw[Q63 c l,Int.pow_succ,Int.mul_add,← Int.mul_assoc,← Int.mul_assoc,Int.mul_comm 256 (c.toNat:Int),Int.mul_assoc,Int.mul_comm 256 (256 ^ l.length),Int.mul_assoc]
  omega
theorem Q8Q(l:List UInt8)(c:UInt8):QR true (l++[c])=QR true l*256+(c.toNat:Int):=by
 unfold QR
 rw[if_pos rfl,if_pos rfl,List.reverse_append]
 show (c.toNat:Int)+256*leN l.reverse=_
 omega
theorem Q3N(l:List UInt8)(c:UInt8):QR false (l++[c])=QR false l+(c.toNat:Int)*256 ^ l.length:=by
 unfold QR
 exact Q63 c l
theorem Q49(b:Bool)(l:List UInt8):QR b l<256 ^ l.length:=by
 unfold QR
 split
 ·have:=Q86 l.reverse;rwa [List.length_reverse] at this
 ·exact Q86 l
theorem Q8d(i:Nat):(256:Int) ^ i=2 ^ (8*i):=by rw[Int.pow_mul];rfl
theorem Qbo{l:List UInt8}{c:UInt8}(h:l.length<4):QR true l*2 ^ (8:Int).toNat=QR true l*256∧bits .or .i64 (QR true l*256) (c.toNat:Int)=QR true (l++[c])∧0≤QR true l*256∧QR true l*256<4294967296:=by
 have h0:=Q1u true l;have h1:=Q49 true l;have hc:=c.toNat_lt
 have h2:QR true l<16777216:=by
  rcases (show l.length=0∨l.length=1∨l.length=2∨l.length=3 by omega) with e|e|e|e<;>rw[e] at h1<;>simp at h1<;>omega
 refine⟨rfl,?_,by omega,by omega⟩;rw[Q8Q];exact Qby 8 (by omega) (m:=QR true l) (by omega) h0 ⟨by omega,by simp;omega⟩ (by omega)
theorem Q5X{l:List UInt8}{c:UInt8}(h:l.length<4):(c.toNat:Int)*2 ^ (8*(l.length:Int)).toNat=(c.toNat:Int)*256 ^ l.length∧bits .or .i64 (QR false l) ((c.toNat:Int)*256 ^ l.length)=QR false (l++[c])∧0≤(c.toNat:Int)*256 ^ l.length∧(c.toNat:Int)*256 ^ l.length<4294967296:=by
 have h0:=Q1u false l;have h1:=Q49 false l;have hc:=c.toNat_lt
 have e8:(8*(l.length:Int)).toNat=8*l.length:=by omega
 have hb:0≤(c.toNat:Int)*256 ^ l.length∧(c.toNat:Int)*256 ^ l.length<4294967296:=by
  rcases (show l.length=0∨l.length=1∨l.length=2∨l.length=3 by omega) with e|e|e|e<;>rw[e]<;>simp<;>omega
 refine⟨by rw[e8,Q8d],?_,hb⟩;rw[Q3N];refine QdD (8*l.length) (by omega) (m:=(c.toNat:Int)) (by rw[Q8d,Int.mul_comm]) (by omega) ⟨h0,by rw[← Q8d];exact h1⟩ (by omega)
section
variable {F:List Rl}{D:List UInt8}{f p:Nat}{k:Int}
theorem Qdu(h:(Qd F k).kind=1):Qx F D (f+1) k p=rb (Vj (Qd F k).bs (D.drop p) p) fun q=>okR (ndL,.nil,q):=by
 rw[Qx];rw[if_pos h]
theorem Qbm(h:(Qd F k).kind=2∨(Qd F k).kind=3):Qx F D (f+1) k p=rb (JV (Qd F k) D p) fun y=>okR (ndN y.1,.nil,y.2):=by
 rw[Qx];rw[if_neg (by omega),if_pos h]
theorem Qdm(h:(Qd F k).kind=4):Qx F D (f+1) k p=rb (ZQ D p (Qd F k).size) fun y=>okR (ndB y.1,.nil,y.2):=by
 rw[Qx];rw[if_neg (by omega),if_neg (by omega),if_pos h]
theorem QaJ(h:(Qd F k).kind=10):Qx F D (f+1) k p=rb (JV (Qd F (Qd F k).count) D p) fun x=>rb (ZQ D x.2 x.1) fun y=>okR (ndB y.1,.nil,y.2):=by
 rw[Qx];rw[if_neg (by omega),if_neg (by omega),if_neg (by omega),if_pos h]
theorem Qdk(h:(Qd F k).kind=5):Qx F D (f+1) k p=rb (Jd (Qd F k).stop (Qd F k).size (D.drop p) 0 p) fun q=>okR (ndB ((D.drop p).take (q - p)),.nil,q+1):=by
 rw[Qx];rw[if_neg (by omega),if_neg (by omega),if_neg (by omega),if_neg (by omega),if_pos h]
theorem QcG(h:(Qd F k).kind=6):Qx F D (f+1) k p=rb (JV (Qd F (Qd F k).count) D p) fun x=>rb (Ze (Qx F D f (Qd F k).elem) x.1.toNat x.2) fun z=>okR (ndL,z.1,z.2):=by
 rw[Qx];rw[if_neg (by omega),if_neg (by omega),if_neg (by omega),if_neg (by omega),if_neg (by omega),if_pos h]
theorem Qd0(h:(Qd F k).kind=9):Qx F D (f+1) k p=rb (Zs (Qx F D f (Qd F k).elem) D (Qd F k).stop (D.length+1) p) fun z=>okR (ndL,z.1,z.2):=by
 rw[Qx];rw[if_neg (by omega),if_neg (by omega),if_neg (by omega),if_neg (by omega),if_neg (by omega),if_neg (by omega),if_pos h]
theorem QbR(h:(Qd F k).kind=8)(hc:D[p]? =none):Qx F D (f+1) k p=erR p:=by
 rw[Qx];rw[if_neg (by omega),if_neg (by omega),if_neg (by omega),if_neg (by omega),if_neg (by omega),if_neg (by omega),if_neg (by omega),if_pos h,hc]
theorem QaX{c:UInt8}(h:(Qd F k).kind=8)(hc:D[p]? =some c)(hi:ZY F (Qd F k).parts c=none):Qx F D (f+1) k p=erR p:=by
 rw[Qx];rw[if_neg (by omega),if_neg (by omega),if_neg (by omega),if_neg (by omega),if_neg (by omega),if_neg (by omega),if_neg (by omega),if_pos h,hc];simp only;rw[hi]
theorem QcJ{c:UInt8}{i:Nat}(h:(Qd F k).kind=8)(hc:D[p]? =some c)(hi:ZY F (Qd F k).parts c=some i):Qx F D (f+1) k p=rb (Qx F D f ((Qd F k).parts.getD i 0) p) fun y=>okR (ndL,.cons (ndN (i:Int)) .nil (.cons y.1 y.2.1 .nil),y.2.2):=by
 rw[Qx];rw[if_neg (by omega),if_neg (by omega),if_neg (by omega),if_neg (by omega),if_neg (by omega),if_neg (by omega),if_neg (by omega),if_pos h,hc];simp only;rw[hi]
theorem Qde(h:(Qd F k).kind=7):Qx F D (f+1) k p=rb (Zt (Qx F D f) (Qd F k).names (Qd F k).parts p) fun z=>okR (ndR z.1,z.2.1,z.2.2):=by
 rw[Qx];rw[if_neg (by omega),if_neg (by omega),if_neg (by omega),if_neg (by omega),if_neg (by omega),if_neg (by omega),if_neg (by omega),if_neg (by omega)]
def VF.cat:VF→VF→VF
 |.nil,G=>G
 |.cons d p r,G=>.cons d p (VF.cat r G)
theorem VF.cat_nil:∀A:VF,A.cat .nil=A
 |.nil=>rfl
 |.cons d p r=>by show VF.cons d p (r.cat .nil)=_;rw[VF.cat_nil r]
theorem VF.snoc_cat(d:Nd)(p:VF):∀A B:VF,(A.snoc d p).cat B=A.cat (.cons d p B)
 |.nil,B=>rfl
 |.cons d' p' r,B=>by show VF.cons d' p' ((r.snoc d p).cat B)=VF.cons d' p' (r.cat (.cons d p B));rw[VF.snoc_cat d p r B]
end
section
variable {α β γ:Type}
theorem Q0X(x:Rdg α)(g:α→Rdg β)(h:β→Rdg γ):rb (rb x g) h=rb x fun a=>rb (g a) h:=by
 cases x with
 |none=>rfl
 |some x=>cases x<;>rfl
theorem Q0j(a:α)(g:α→Rdg β):rb (okR a) g=g a:=rfl
end
section
variable {one:Nat→Rdg (Nd×VF×Nat)}{D:List UInt8}{A:VF}{n f p:Nat}{stop:Int}
def JD(one:Nat→Rdg (Nd×VF×Nat))(A:VF)(n p:Nat):Rdg (VF×Nat):=rb (Ze one n p) fun z=>okR (A.cat z.1,z.2)
theorem Q5l:JD one .nil n p=Ze one n p:=by
 unfold JD
 cases Ze one n p with
 |none=>rfl
 |some y=>cases y<;>rfl
theorem Q8m:JD one A 0 p=okR (A,p):=by
 unfold JD Ze
 rw[Q0j,VF.cat_nil]
theorem Qa8{e:Nat}(h:one p=some (.error e)):JD one A (n+1) p=some (.error e):=by
 unfold JD Ze
 rw[h]
 rfl
theorem Qa2{y:Nd×VF×Nat}(h:one p=some (.ok y)):JD one A (n+1) p=JD one (A.snoc y.1 y.2.1) n y.2.2:=by
 unfold JD
 rw[Ze,Xl h,Q0X]
 congr 1
 funext z
 rw[Q0j,VF.snoc_cat]
def VC(one:Nat→Rdg (Nd×VF×Nat))(D:List UInt8)(stop:Int)(A:VF)(f p:Nat):Rdg (VF×Nat):=rb (Zs one D stop f p) fun z=>okR (A.cat z.1,z.2)
theorem Q60:VC one D stop .nil f p=Zs one D stop f p:=by
 unfold VC
 cases Zs one D stop f p with
 |none=>rfl
 |some y=>cases y<;>rfl
theorem Q9B(h:D[p]? =none):VC one D stop A (f+1) p=some (.error p):=by
 unfold VC
 rw[Zs,h]
 rfl
theorem Q9M{c:UInt8}(h:D[p]? =some c)(hs:(c.toNat:Int)=stop):VC one D stop A (f+1) p=okR (A,p+1):=by
 unfold VC
 rw[Zs,h]
 simp only
 rw[if_pos hs,Q0j,VF.cat_nil]
theorem Qbj{c:UInt8}{e:Nat}(h:D[p]? =some c)(hs:¬(c.toNat:Int)=stop)(h1:one p=some (.error e)):VC one D stop A (f+1) p=some (.error e):=by
 unfold VC
 rw[Zs,h]
 simp only
 rw[if_neg hs,h1]
 rfl
theorem QaL{c:UInt8}{y:Nd×VF×Nat}(h:D[p]? =some c)(hs:¬(c.toNat:Int)=stop)(h1:one p=some (.ok y)):VC one D stop A (f+1) p=VC one D stop (A.snoc y.1 y.2.1) f y.2.2:=by
 unfold VC
 rw[Zs,h]
 simp only
 rw[if_neg hs,Xl h1,Q0X]
 congr 1
 funext z
 rw[Q0j,VF.snoc_cat]
def JU(one:Int→Nat→Rdg (Nd×VF×Nat))(N:List (List UInt8))(A:VF)(ns:List (List UInt8))(ks:List Int)(p:Nat):Rdg (List (List UInt8)×VF×Nat):=rb (Zt one ns ks p) fun z=>okR (N++z.1,A.cat z.2.1,z.2.2)
section
variable {one:Int→Nat→Rdg (Nd×VF×Nat)}{N ns:List (List UInt8)}{ks:List Int}{nm:List UInt8}{k:Int}
theorem Q6J:JU one [] .nil ns ks p=Zt one ns ks p:=by
 unfold JU
 cases Zt one ns ks p with
 |none=>rfl
 |some y=>cases y<;>rfl
theorem Qar:JU one N A ns [] p=okR (N,A,p):=by
 unfold JU
 have e:Zt one ns [] p=okR ([],.nil,p):=by cases ns<;>rfl
 rw[e,Q0j,VF.cat_nil,List.append_nil]
theorem Qc1{e:Nat}(h:one k p=some (.error e)):JU one N A (nm::ns) (k::ks) p=some (.error e):=by
 unfold JU
 rw[Zt,h]
 rfl
theorem QbP{y:Nd×VF×Nat}(hn:nm=[])(h:one k p=some (.ok y)):JU one N A (nm::ns) (k::ks) p=JU one N A ns ks y.2.2:=by
 unfold JU
 rw[Zt,Xl h,Q0X]
 congr 1
 funext z
 rw[if_pos hn,Q0j]
theorem Q1P{y:Nd×VF×Nat}(hn:nm≠[])(h:one k p=some (.ok y)):JU one N A (nm::ns) (k::ks) p=JU one (N++[nm]) (A.snoc y.1 y.2.1) ns ks y.2.2:=by
 unfold JU
 rw[Zt,Xl h,Q0X]
 congr 1
 funext z
 rw[if_neg hn,Q0j,VF.snoc_cat,List.append_assoc]
 rfl
end
end
def Jv(c x:Int):List PanicEntry:=[{ v:=.iface 32 (.agg #[.int .i64 c,.int .i64 x]),recovered:=false }]
structure Rv where
 Af:Option Addr
 As:Option Addr
 Ad:Option Addr
 n:Nat
 nd:Nat
 cf:Nat
 cs:Nat
 cd:Nat
def Rv.cells(z:Rv)(p:Nat):List Value:=[.slice z.Af z.n z.cf,.slice z.As z.n z.cs,.slice z.Ad z.nd z.cd,.int .i64 (p:Int)]
abbrev Rv.obj(z:Rv)(p:Nat):Obj:=.cells (z.cells p).toArray 60 (0,0)
structure J0(W:World)(z:Rv)(B g:Nat)(F:List Rl)(D:List UInt8)(p:Nat):Prop where
 env:Q0S W B F D z.Af z.As z.Ad z.n z.nd
 hB:B≤g
 cur:W.heap[g]? =some (z.obj p)
 hn:z.n≤z.cf
 hnd:z.nd≤z.cd
 hcd:z.cd≤maxLen
 hp:p≤D.length
 hD:D.length≤1048576
theorem J0.lt{W:World}{z:Rv}{B g p:Nat}{F:List Rl}{D:List UInt8}(h:J0 W z B g F D p):g<W.heap.size:=(Array.getElem?_eq_some_iff.1 h.cur).1
theorem J0.next{W w:World}{z:Rv}{B g p q:Nat}{F:List Rl}{D:List UInt8}(h:J0 W z B g F D p)(hk:XJ [g] W w)(hq:q≤D.length)(hc:w.heap[g]? =some (z.obj q)):J0 w z B g F D q:=
 ⟨h.env.keep h.hB h.lt hk,h.hB,hc,h.hn,h.hnd,h.hcd,hq,h.hD⟩
theorem J0.len{W:World}{z:Rv}{B g p:Nat}{F:List Rl}{D:List UInt8}(h:J0 W z B g F D p):D.length=z.nd∧F.length=z.n:=h.env.len
theorem J0.wd{W:World}{z:Rv}{B g p:Nat}{F:List Rl}{D:List UInt8}(h:J0 W z B g F D p):Wd [g] W [.blk g (z.obj p)] W:=Wd.startB h.cur
theorem J0.byte{W:World}{z:Rv}{B g p i:Nat}{F:List Rl}{D:List UInt8}{c:UInt8}(h:J0 W z B g F D p)(hc:D[i]? =some c):∃b o,z.Ad=some ⟨b,o,none⟩∧b<B∧W.cell? ⟨b,o+i,none⟩=some (.int .u8 (c.toNat:Int)):=by
 have hi:i<D.length:=(List.getElem?_eq_some_iff.1 hc).1;have hl:=h.len.1;obtain⟨b,o,e,hb,hcc⟩:=h.env.dt.2 (by omega);refine⟨b,o,e,hb,hcc i _ ?_⟩
 unfold bv
 rw[List.getElem?_map,hc]
 rfl
def NmE(z:Rv)(g:Nat)(W:World)(res:Rdg (Int×Nat))(e:Ending)(w':World):Prop:=XJ [g] W w'∧((∃x:Nat,res=some (.error x)∧e=.panicked (Jv 1 x))∨∃n q,res=some (.ok (n,q))∧e=.returned (.int .i64 n)∧w'.heap[g]? =some (z.obj q))
def ByE(z:Rv)(B g:Nat)(W:World)(res:Rdg (List UInt8×Nat))(e:Ending)(w':World):Prop:=XJ [g] W w'∧((∃x:Nat,res=some (.error x)∧e=.panicked (Jv 1 x))∨∃l q A c,res=some (.ok (l,q))∧e=.returned (.slice A l.length c)∧w'.heap[g]? =some (z.obj q)∧Rd w' B 1 A l.length (bv l)∧l.length≤c)
def VlE(z:Rv)(g:Nat)(W:World)(res:Rdg (Nd×VF×Nat))(e:Ending)(w':World):Prop:=XJ [g] W w'∧((∃x:Nat,res=some (.error x)∧e=.panicked (Jv 1 x))∨∃d l q v L,res=some (.ok (d,l,q))∧e=.returned v∧w'.heap[g]? =some (z.obj q)∧XA L v d l∧New L W.heap.size w')
abbrev Wtg:Type:=Except Nat (List UInt8×Nat)
def apW(b:List UInt8):Wtg→Wtg
 |.error e=>.error e
 |.ok (b',m)=>.ok (b++b',m)
def bnW(x:Wtg)(f:Nat→Wtg):Wtg:=match x with|.error e=>.error e|.ok (b,m)=>apW b (f m)
theorem JM(x:Wtg):apW [] x=x:=by rcases x with e|⟨b,m⟩<;>rfl
theorem Q0H(a b:List UInt8)(x:Wtg):apW a (apW b x)=apW (a++b) x:=by
 rcases x with e|⟨c,m⟩
 ·rfl
 ·show Except.ok (a++(b++c),m)=Except.ok (a++b++c,m)
  rw[List.append_assoc]
theorem QcP(a:List UInt8)(x:Wtg)(f:Nat→Wtg):apW a (bnW x f)=bnW (apW a x) f:=by
 rcases x with e|⟨c,m⟩
 ·rfl
 ·exact Q0H _ _ _
theorem QcF(x:Wtg)(f g:Nat→Wtg):bnW (bnW x f) g=bnW x fun m=>bnW (f m) g:=by
 rcases x with e|⟨c,m⟩
 ·rfl
 ·show bnW (apW c (f m)) g=apW c (bnW (f m) g)
  rw[QcP]
theorem Qba(b:List UInt8)(m:Nat)(f:Nat→Wtg):bnW (.ok (b,m)) f=apW b (f m):=rfl
def QA(F:List Rl)(k:Int)(d:Nd)(p:VF)(n:Nat):Wtg:=
 if X8 F (Qd F k) d p=true then apW (Xy F (Qd F k) d p) (X7 F p (Za F (Qd F k) p) (Vw F (Qd F k)) (n+1)) else .error n
def YF(F:List Rl)(k:Int):VF→Nat→Wtg
 |.nil,n=>.ok ([],n)
 |.cons d p r,n=>bnW (QA F k d p n) fun m=>YF F k r m
def KV(F:List Rl):List (List UInt8)→List Int→VF→Nat→Wtg
 |nm::nms,k::ks,l,n=>if nm=[] then apW (Qd F k).bs (KV F nms ks l n) else match l with
  |.cons d p r=>bnW (QA F k d p n) fun m=>KV F nms ks r m
  |.nil=>.ok ([],n)
 |_,_,_,n=>.ok ([],n)
theorem Q1t(F:List Rl)(nm:List UInt8)(nms:List (List UInt8))(k:Int)(ks:List Int)(l:VF)(n:Nat):KV F (nm::nms) (k::ks) l n=if nm=[] then apW (Qd F k).bs (KV F nms ks l n) else match l with
  |.cons d p r=>bnW (QA F k d p n) fun m=>KV F nms ks r m
  |.nil=>.ok ([],n):=by
 cases l<;>rfl
section
variable {F:List Rl}{suf b b' pre:List UInt8}{ps:List (List UInt8×Option Int)}{d:Nd}{p r:VF}{k:Int}{n:Nat}
theorem Kv:X7 F (.cons d p r) ((pre,some k)::ps) suf n=apW pre (bnW (QA F k d p n) fun m=>X7 F r ps suf m):=by
 rw[X7]
 unfold QA
 split
 ·generalize X7 F p (Za F (Qd F k) p) (Vw F (Qd F k)) (n+1)=x
  rcases x with e|⟨b,m⟩
  ·rfl
  ·show (match X7 F r ps suf m with|.error e=>.error e|.ok (b',m')=>.ok (pre++(Xy F (Qd F k) d p++b)++b',m'))=apW pre (apW (Xy F (Qd F k) d p++b) (X7 F r ps suf m))
   generalize X7 F r ps suf m=y
   rcases y with e|⟨b',m'⟩
   ·rfl
   ·simp [apW]
 ·rfl
theorem YG:X7 F (.cons d p .nil) [([],some k)] [] n=QA F k d p n:=by
 rw[Kv,JM]
 generalize QA F k d p n=x
 rcases x with e|⟨b,m⟩
 ·rfl
 ·show apW b (X7 F .nil [] [] m)=_
  simp [X7,apW]
theorem Q0C(suf:List UInt8):∀(l:VF) (n:Nat),X7 F l (List.replicate l.len ([],some k)) suf n=bnW (YF F k l n) fun m=>.ok (suf,m)
 |.nil,n=>by
  show X7 F .nil _ suf n=apW [] (.ok (suf,n))
  rw[JM]
  simp [X7]
 |.cons d p r,n=>by
  show X7 F (.cons d p r) (([],some k)::List.replicate r.len ([],some k)) suf n=bnW (bnW (QA F k d p n) fun m=>YF F k r m) _
  rw[Kv,JM,QcF]
  congr 1
  funext m
  exact Q0C suf r m
theorem QcL(x:Wtg):(bnW x fun m=>.ok ([],m))=x:=by
 rcases x with e|⟨b,m⟩
 ·rfl
 ·show Except.ok (b++[],m)=_
  rw[List.append_nil]
theorem Q0f:∀(ns:List (List UInt8)) (ks:List Int) (l:VF) (n:Nat) (acc:List UInt8),ns.length=ks.length→l.len=(QZ ns).length→X7 F l (V0 F ns ks acc).1 (V0 F ns ks acc).2 n=apW acc (KV F ns ks l n)
 |[],[],l,n,acc,_,hl=>by
  have:l=.nil:=by cases l with|nil=>rfl|cons d p r=>simp [VF.len,QZ] at hl
  subst this
  simp [V0,KV,X7,apW]
 |nm::ns,k::ks,l,n,acc,h1,h2=>by
  have h1':ns.length=ks.length:=by simpa using h1
  rw[V0,Q1t]
  by_cases hn:nm=[]
  ·rw[if_pos hn,if_pos hn,Q0H];refine Q0f ns ks l n _ h1' ?_;rw[h2,hn]
   rfl
  ·rw[if_neg hn,if_neg hn]
   have e:QZ (nm::ns)=nm::QZ ns:=by unfold QZ;rw[List.filter_cons_of_pos (by simpa using hn)]
   rw[e] at h2
   cases l with
   |nil=>simp [VF.len] at h2
   |cons d p r=>
    simp only
    rw[Kv]
    congr 1
    congr 1
    funext m
    have:=Q0f ns ks r m [] h1' (by simpa [VF.len] using h2);rw[JM] at this;exact this
def X3:VF→Nat
 |.nil=>0
 |.cons d p r=>300+d.bs.length+X3 p+X3 r
abbrev QK(d:Nd)(p:VF):Nat:=300+d.bs.length+X3 p
theorem Q7V(h:X8 F (Qd F k) d p=false):QA F k d p n=.error n:=by unfold QA;rw[h];rfl
theorem Jj(h:X8 F (Qd F k) d p=true)(hi:Za F (Qd F k) p=[])(ht:Vw F (Qd F k)=[]):QA F k d p n=.ok (Xy F (Qd F k) d p,n+1):=by
 unfold QA
 rw[if_pos h,hi,ht]
 cases p<;>simp [X7,apW]
theorem Qcs(h:X8 F (Qd F k) d p=true)(hk:(Qd F k).kind=6):QA F k d p n=apW (VN (Qd F (Qd F k).count) (p.len:Int)) (YF F (Qd F k).elem p (n+1)):=by
 unfold QA
 rw[if_pos h,Jz (.inl hk),X6 (by omega) (by omega),Q0C,QcL]
 unfold Xy
 rw[if_neg (by omega),if_neg (by omega),if_neg (by omega),if_neg (by omega),if_neg (by omega),if_pos hk]
theorem Qb8(h:X8 F (Qd F k) d p=true)(hk:(Qd F k).kind=9):QA F k d p n=bnW (YF F (Qd F k).elem p (n+1)) fun m=>.ok ([Zk (Qd F k)],m):=by
 unfold QA
 rw[if_pos h,Jz (.inr hk),Q0C]
 unfold Xy Vw
 rw[if_neg (by omega),if_neg (by omega),if_neg (by omega),if_neg (by omega),if_neg (by omega),if_neg (by omega),if_pos hk,JM]
theorem Qbt{d1 d2:Nd}{p1 p2:VF}(h:X8 F (Qd F k) d (.cons d1 p1 (.cons d2 p2 .nil))=true)(hk:(Qd F k).kind=8):QA F k d (.cons d1 p1 (.cons d2 p2 .nil)) n=QA F ((Qd F k).parts.getD d1.n.toNat 0) d2 p2 (n+2):=by
 have e1:Za F (Qd F k) (.cons d1 p1 (.cons d2 p2 .nil))=[([],none),([],some ((Qd F k).parts.getD d1.n.toNat 0))]:=by
  unfold Za
  rw[if_neg (by omega),if_pos hk]
  rfl
 have e2:Xy F (Qd F k) d (.cons d1 p1 (.cons d2 p2 .nil))=[]:=by
  unfold Xy
  rw[if_neg (by omega),if_neg (by omega),if_neg (by omega),if_neg (by omega),if_neg (by omega),if_neg (by omega)]
 unfold QA
 rw[if_pos h,e1,e2,X6 (by omega) (by omega),JM];rw[X7];have:=YG (F:=F) (d:=d2) (p:=p2) (k:=(Qd F k).parts.getD d1.n.toNat 0) (n:=n+1+1);rw[this]
 show _=QA F _ d2 p2 (n+1+1)
 generalize QA F _ d2 p2 (n+1+1)=x
 rcases x with e|⟨b,m⟩<;>rfl
theorem QaK(h:X8 F (Qd F k) d p=true)(hk:(Qd F k).kind=7)(h1:(Qd F k).names.length=(Qd F k).parts.length)(h2:p.len=(QZ (Qd F k).names).length):QA F k d p n=KV F (Qd F k).names (Qd F k).parts p (n+1):=by
 have e1:Za F (Qd F k) p=(V0 F (Qd F k).names (Qd F k).parts []).1:=by
  unfold Za
  rw[if_neg (by omega),if_neg (by omega),if_pos hk]
 have e2:Vw F (Qd F k)=(V0 F (Qd F k).names (Qd F k).parts []).2:=by
  unfold Vw
  rw[if_neg (by omega),if_pos hk]
 have e3:Xy F (Qd F k) d p=[]:=by
  unfold Xy
  rw[if_neg (by omega),if_neg (by omega),if_neg (by omega),if_neg (by omega),if_neg (by omega),if_neg (by omega)]
 unfold QA
 rw[if_pos h,e1,e2,e3,JM,Q0f _ _ _ _ _ h1 h2,JM]
end
section
variable {M:List Nat}{W w w':World}{O:List Qc}
theorem Wd.upd2{i j:Nat}{x x' y y':Qc}{ks:List Nat}(hij:i≠j)(h:Wd M W O w)(hx:O[i]? =some x)(hy:O[j]? =some y)(hxw:x.w=true)(hyw:y.w=true)(hxw':x'.w=true)(hyw':y'.w=true)(hk:XJ ks w w')(hks:∀b∈ks,x.foot=some b∨y.foot=some b)(hx':x'.on w')(hy':y'.on w')(hfx:∀b,x'.foot=some b→x.foot=some b)(hfy:∀b,y'.foot=some b→y.foot=some b∨w.heap.size≤b):Wd M W ((O.set i x').set j y') w':=by
 have hi:i<O.length:=(List.getElem?_eq_some_iff.1 hx).1;have hj:j<O.length:=(List.getElem?_eq_some_iff.1 hy).1
 have hset:∀(l:Nat) (z:Qc),((O.set i x').set j y')[l]? =some z→(l=j∧z=y')∨(l=i∧z=x')∨(l≠i∧l≠j∧O[l]? =some z):=by
  intro l z hz;rw[List.getElem?_set] at hz
  by_cases hjl:j=l
  ·subst hjl;rw[if_pos rfl,if_pos (by rw[List.length_set];exact hj)] at hz
   cases hz
   exact .inl ⟨rfl,rfl⟩
  ·rw[if_neg hjl,List.getElem?_set] at hz
   by_cases hil:i=l
   ·subst hil;rw[if_pos rfl,if_pos hi] at hz
    cases hz
    exact .inr (.inl ⟨rfl,rfl⟩)
   ·rw[if_neg hil] at hz;exact .inr (.inr ⟨fun e=>hil e.symm,fun e=>hjl e.symm,hz⟩)
 have hap:∀(l:Nat) (z:Qc) (b:Nat),l≠i→l≠j→O[l]? =some z→z.foot=some b→x.foot≠some b∧y.foot≠some b:=fun l z b h1 h2 hz hf=>
  ⟨fun hfx=>h1 (h.nd l i z x b hz hx hf hfx (by rw[hxw,Bool.or_true])),fun hfy=>h2 (h.nd l j z y b hz hy hf hfy (by rw[hyw,Bool.or_true]))⟩
 have hsz:=h.k.size;refine⟨⟨hk.os.trans h.k.os,hk.tape.trans h.k.tape,hk.output.trans h.k.output,Nat.le_trans h.k.size hk.size,fun k hk1 hn=>?_⟩,?_,?_,?_⟩
 ·rw[hk.block k (by omega) (fun hm=>hn (by
   rcases hks k hm with hf|hf
   ·have:=h.new i x k hx hf hk1;rwa [hxw] at this
   ·have:=h.new j y k hy hf hk1
    rwa [hyw] at this))]
  exact h.k.block k hk1 hn
 ·intro l z hz
  rcases hset l z hz with ⟨_,rfl⟩|⟨_,rfl⟩|⟨h1,h2,hz'⟩
  ·exact hy'
  ·exact hx'
  ·refine(h.own l z hz').keep hk.size fun b hf=>hk.block b ((h.own l z hz').lt hf) fun hm=>?_
   rcases hks b hm with h3|h3
   ·exact(hap l z b h1 h2 hz' hf).1 h3
   ·exact(hap l z b h1 h2 hz' hf).2 h3
 ·intro l z b hz hf hlt
  rcases hset l z hz with ⟨_,rfl⟩|⟨_,rfl⟩|⟨h1,h2,hz'⟩
  ·rcases hfy b hf with h3|h3
   ·have:=h.new j y b hy h3 hlt;rw[hyw] at this;rwa [hyw']
   ·omega
  ·have:=h.new i x b hx (hfx b hf) hlt;rw[hxw] at this;rwa [hxw']
  ·exact h.new l z b hz' hf hlt
 ·intro l l' z z' b hz hz' hf hf' hww;have hlx:=(h.own i x hx)
  rcases hset l z hz with ⟨rfl,rfl⟩|⟨rfl,rfl⟩|⟨h1,h2,hz1⟩
  ·rcases hset l' z' hz' with ⟨rfl,rfl⟩|⟨rfl,rfl⟩|⟨h1',h2',hz1'⟩
   ·rfl
   ·have h5:=hfx b hf'
    rcases hfy b hf with h3|h3
    ·exact absurd (h.nd l' l x y b hx hy h5 h3 (by rw[hxw];rfl)) hij
    ·have:=hlx.lt h5;omega
   ·rcases hfy b hf with h3|h3
    ·exact absurd h3 (hap l' z' b h1' h2' hz1' hf').2
    ·have:=(h.own l' z' hz1').lt hf';omega
  ·rcases hset l' z' hz' with ⟨rfl,rfl⟩|⟨rfl,rfl⟩|⟨h1',h2',hz1'⟩
   ·have h5:=hfx b hf
    rcases hfy b hf' with h3|h3
    ·exact absurd (h.nd l l' x y b hx hy h5 h3 (by rw[hxw];rfl)) hij
    ·have:=hlx.lt h5;omega
   ·rfl
   ·exact absurd (hfx b hf) (hap l' z' b h1' h2' hz1' hf').1
  ·rcases hset l' z' hz' with ⟨rfl,rfl⟩|⟨rfl,rfl⟩|⟨h1',h2',hz1'⟩
   ·rcases hfy b hf' with h3|h3
    ·exact absurd h3 (hap l z b h1 h2 hz1 hf).2
    ·have:=(h.own l z hz1).lt hf;omega
   ·exact absurd (hfx b hf') (hap l z b h1 h2 hz1 hf).1
   ·exact h.nd l l' z z' b hz1 hz1' hf hf' hww
end
structure Wz where
 Af:Option Addr
 n:Nat
 cf:Nat
abbrev Wz.obj(z:Wz)(A:Option Addr)(m c n:Nat):Obj:=.cells ([.slice z.Af z.n z.cf,.slice A m c,.int .i64 (n:Int)]:List Value).toArray 77 (0,0)
abbrev YT(A:Option Addr)(c:Nat)(xs:List UInt8):Qc:=.row A xs.length c 5 1 (bv xs)
abbrev wM(g:Nat)(A:Option Addr)(m c:Nat):List Nat:=g::(Value.slice A m c).ownBlock.toList
theorem Z3{g:Nat}{A:Option Addr}{c b:Nat}{xs:List UInt8}:b∈wM g A xs.length c↔b=g∨(YT A c xs).foot=some b:=by
 unfold wM
 rw[List.mem_cons]
 show b=g∨b∈(YT A c xs).foot.toList↔_
 rw[Option.mem_toList]
structure XI(W:World)(z:Wz)(B g:Nat)(F:List Rl)(A:Option Addr)(c:Nat)(xs:List UInt8)(n:Nat):Prop where
 fm:Xm W B z.Af z.n F
 hB:B≤g
 cur:W.heap[g]? =some (z.obj A xs.length c n)
 row:(YT A c xs).on W
 far:∀b,(YT A c xs).foot=some b→B≤b∧b≠g
 hn:z.n≤z.cf
 gv:∀w,Below B W w→GV w
section
variable {M:List Nat}{W w w':World}{O:List Qc}{z:Wz}{B g c c' n m i j cost:Nat}{F:List Rl}{A A':Option Addr}{xs ys_v:List UInt8}{res RES:Wtg}{e:Ending}
theorem XI.lt(h:XI W z B g F A c xs n):g<W.heap.size:=(Array.getElem?_eq_some_iff.1 h.cur).1
theorem XI.len(h:XI W z B g F A c xs n):F.length=z.n:=h.fm.1
theorem XI.wd(h:XI W z B g F A c xs n):Wd (wM g A xs.length c) W [.blk g (z.obj A xs.length c n),YT A c xs] W:=by
 refine .of_pairs (XJ.refl _ _) ?_ ?_ ?_
 ·intro x hx
  simp only[List.mem_cons,List.not_mem_nil,or_false] at hx
  rcases hx with rfl|rfl
  ·exact h.cur
  ·exact h.row
 ·intro x hx b hb _
  simp only[List.mem_cons,List.not_mem_nil,or_false] at hx
  rcases hx with rfl|rfl
  ·cases hb;exact Z3.2 (.inl rfl)
  ·exact Z3.2 (.inr hb)
 ·refine List.Pairwise.cons ?_ (List.Pairwise.cons (by simp) List.Pairwise.nil);intro y hy b hb hb';rw[List.mem_singleton] at hy;subst hy
  cases hb
  exact absurd rfl (h.far _ hb').2
theorem XI.below(h:XI W z B g F A c xs n)(hk:XJ (wM g A xs.length c) W w):Below B W w:=
 ⟨hk.os,hk.tape,hk.output,hk.size,fun k hk1=>hk.block k (by have:=h.lt;have:=h.hB;omega) fun hm=>by
  rcases Z3.1 hm with rfl|hm
  ·have:=h.hB;omega
  ·have:=(h.far k hm).1;omega⟩
theorem XI.next(h:XI W z B g F A c xs n)(hk:XJ (wM g A xs.length c) W w)(hc:w.heap[g]? =some (z.obj A' ys_v.length c' m))(hr:(YT A' c' ys_v).on w)(hf:∀b,(YT A' c' ys_v).foot=some b→(YT A c xs).foot=some b∨W.heap.size≤b):XI w z B g F A' c' ys_v m:=
 ⟨h.fm.below (h.below hk),h.hB,hc,hr,fun b hb=>by
  rcases hf b hb with h1|h1
  ·exact h.far b h1
  ·have:=h.lt;have:=h.hB;omega,h.hn,fun w' hb=>h.gv w' ((h.below hk).trans hb)⟩
theorem XI.nextW(h:XI W z B g F A c xs n)(hw:Wd (wM g A xs.length c) W O w)(i j:Nat)(hO:O[i]? =some (.blk g (z.obj A' ys_v.length c' m)))(hP:O[j]? =some (YT A' c' ys_v)):XI w z B g F A' c' ys_v m:=
 h.next hw.k (hw.own i _ hO) (hw.own j _ hP) fun b hb=>by
  rcases Nat.lt_or_ge b W.heap.size with hl|hl
  ·have h1:=hw.new j _ b hP hb hl;have h1:b∈wM g A xs.length c:=h1
   rcases Z3.1 h1 with rfl|h2
   ·have:=hw.nd i j _ _ _ hO hP rfl hb rfl;subst this;rw[hO] at hP
    cases hP
   ·exact .inl h2
  ·exact .inr hl
def WrE(z:Wz)(g:Nat)(W:World)(A:Option Addr)(c:Nat)(xs:List UInt8)(res:Wtg)(n cost:Nat)(e:Ending)(w':World):Prop:=
 XJ (wM g A xs.length c) W w'∧((∃x,res=.error x∧e=.panicked (Jv 13 (x:Int)))∨∃b m A' c',res=.ok (b,m)∧e=.returned (.tuple #[])∧b.length≤cost∧m≤n+cost∧w'.heap[g]? =some (z.obj A' (xs++b).length c' m)∧(YT A' c' (xs++b)).on w'∧∀q,(YT A' c' (xs++b)).foot=some q→(YT A c xs).foot=some q∨W.heap.size≤q)
def Vb(RES:Wtg)(M:List Nat)(W:World)(ch:List PanicEntry)(w':World):Prop:=∃x,RES=.error x∧ch=Jv 13 (x:Int)∧XJ M W w'
structure Wy where
 b:List UInt8
 m:Nat
 A:Option Addr
 c:Nat
theorem Qem(i j:Nat)(hw:Wd M W O w)(hO:O[i]? =some (.blk g (z.obj A xs.length c n)))(hP:O[j]? =some (YT A c xs))(hk:XJ (wM g A xs.length c) w w'):XJ M W w':=
 hw.k.trans hk fun b hb hlt=>by
  rcases Z3.1 hb with rfl|hb
  ·exact hw.new i _ _ hO rfl hlt
  ·exact hw.new j _ b hP hb hlt
theorem Q0T(i j:Nat)(hij:i≠j)(hw:Wd M W O w)(hO:O[i]? =some (.blk g (z.obj A xs.length c n)))(hP:O[j]? =some (YT A c xs))(hx:∀x:Nat,res=.error x→RES=.error x)(h:WrE z g w A c xs res m cost e w'):ZE (fun y:Wy=>.tuple #[]) (fun y=>res=.ok (y.b,y.m)∧y.b.length≤cost∧y.m≤m+cost) M W (fun y=>(O.set i (.blk g (z.obj y.A (xs++y.b).length y.c y.m))).set j (YT y.A y.c (xs++y.b))) (Vb RES M W) e w':=by
 obtain⟨hk,⟨x,h1,h2⟩|⟨b,m',A',c',h1,h2,h3,h4,h5,h6,h7⟩⟩:=h
 ·exact .inr ⟨_,h2,x,hx x h1,rfl,Qem i j hw hO hP hk⟩
 ·exact .inl ⟨⟨b,m',A',c'⟩,h2,⟨h1,h3,h4⟩,hw.upd2 hij hO hP rfl rfl rfl rfl hk (fun q hq=>by
   rcases Z3.1 hq with rfl|hq
   ·exact .inl rfl
   ·exact .inr hq) h5 h6 (fun _ h=>h) h7⟩
theorem JB(h:XI W z B g F A c xs n)(i j:Nat){b:List UInt8}(hw:Wd (wM g A xs.length c) W O w)(hO:O[i]? =some (.blk g (z.obj A' (xs++b).length c' m)))(hP:O[j]? =some (YT A' c' (xs++b)))(hr:res=.ok (b,m))(hb:b.length≤cost)(hm:m≤n+cost):WrE z g W A c xs res n cost (.returned (.tuple #[])) w:=
 ⟨hw.k,.inr ⟨b,m,A',c',hr,rfl,hb,hm,hw.own i _ hO,hw.own j _ hP,fun q hq=>by
  rcases Nat.lt_or_ge q W.heap.size with hl|hl
  ·have h1:=hw.new j _ q hP hq hl;have h1:q∈wM g A xs.length c:=h1
   rcases Z3.1 h1 with rfl|h2
   ·have:=hw.nd i j _ _ _ hO hP rfl hq rfl;subst this;rw[hO] at hP
    cases hP
   ·exact .inl h2
  ·exact .inr hl⟩⟩
end
section
variable {P:Program}{ops:Array Oper}{Q0:Act→Prop}{Q:Exit→Act→World→Prop}{N:Nat}{E:Env}{o:Oper}{rest:List Oper}{M:List Nat}{W:World}{O:List Qc}{d:Nat}
theorem QH[dq:DQ]{y:Code}(h:sE P Q N M W E O y):xE (Exit.then (fun a w=>y.wp P Q a w) Q) N M W E O .normal:=fun a w ha hw=>h a w ha hw
end
section
variable {P:Program}{Q:Exit→Act→World→Prop}{N:Nat}{M:List Nat}{W:World}{E:Env}{O:List Qc}
theorem Z8{c:Code}{ι:Type}(p:ι→Prop)(m:ι→Nat)(F:ι→Env)(G:ι→List Qc)(i0:ι)(h0:p i0)(hE:Q3L E (F i0))(hG:∀w,Wd M W O w→Wd M W (G i0) w)
  (hr:∀i,p i→sE P (Exit.then (Q9r p m (m i) N M W F G) Q) N M W (F i) (G i) c):sE P Q N M W E O (.loop c):=fun a w ha hw=>by
 refine wp_loop_ghost (fun n a w=>∃i,p i∧m i=n∧Ag N (F i) a∧Wd M W (G i) w) (m i0) ⟨i0,h0,rfl,hE.ag ha,hG w hw⟩ ?_
 rintro n a w ⟨i,hp,rfl,ha,hw⟩
 refine wp_mono (hr i hp a w ha hw) ?_
 intro e a' w' hq
 cases e with
 |normal=>
  obtain⟨j,h1,h2,h3,h4⟩:=hq
  exact⟨m j,h2,j,h1,rfl,h3,h4⟩
 |exit id=>exact hq
 |goto l=>exact hq
 |ret=>exact hq
 |panic ch=>exact hq
 |outgrown=>exact hq
theorem Xb{ι:Type}{p:ι→Prop}{m:ι→Nat}{n:Nat}{F:ι→Env}{G:ι→List Qc}(j:ι)(hp:p j)(hm:m j<n)(hE:Q3L E (F j))(hG:∀w,Wd M W O w→Wd M W (G j) w):xE (Exit.then (Q9r p m n N M W F G) Q) N M W E O .normal:=fun a w ha hw=>
 ⟨j,hp,hm,hE.ag ha,hG w hw⟩
end
theorem Wd.tl{M:List Nat}{W w:World}{x:Qc}{O:List Qc}(h:Wd M W (x::O) w):Wd M W O w:=
 ⟨h.k,fun i y hy=>h.own (i+1) y hy,fun i y b hy hb hl=>h.new (i+1) y b hy hb hl,fun i j y z b hy hz hb hb' hw=>by have:=h.nd (i+1) (j+1) y z b hy hz hb hb' hw;omega⟩
instance :TN Tryz.prog 155 3:=⟨_,Tryz.underlying155,rfl,by kernel_rfl⟩
instance :Fld Tryz.prog 155 0 0:=⟨_,_,1,Tryz.underlying155,rfl,rfl,by kernel_rfl,by decide⟩
instance :Fld Tryz.prog 155 1 1:=⟨_,_,1,Tryz.underlying155,rfl,rfl,by kernel_rfl,by decide⟩
instance :Fld Tryz.prog 155 2 2:=⟨_,_,1,Tryz.underlying155,rfl,rfl,by kernel_rfl,by decide⟩
section
variable {P:Program}{ops:Array Oper}{C:World→Prop}{N:Nat}{E:Env}{o:Oper}{d:Nat}
theorem Qp{x:Operand}{p:Addr}(ho:o.op=.nilCheck x)(hd:o.dst=some d)(hN:d<N)(hw:Qj ops E o=some true)(hx:ev E x=some (.pointer (some p))):oE P ops C N E ((d,.pointer (some p))::E) o:=
 Xq hd hN hw fun ρ w ha _=>by simp [execOp,ho,ha.eval hx,go_sem]
end
theorem J5(c i:Int)(w:World):Calls Tryz.prog 29 #[.int .i64 c,.int .i64 i] w fun e w'=>e=.returned (.agg #[.int .i64 c,.int .i64 i])∧w.alloc (.cells #[.int .i64 c,.int .i64 i] 32)=w':=by
 go_enter Tryz.func29,Tryz.ntmps29
 go_wp2
 exact bodyPost_ret (v:=.agg #[.int .i64 c,.int .i64 i]) (by simp [results,Tryz.results29,go_sem]) rfl ⟨rfl,rfl⟩
theorem Q65(x:Int)(w:World):Calls Tryz.prog 33 #[.int .i64 x] w fun e w'=>e=.panicked (Jv 1 x)∧Below w.heap.size w w':=by
 go_enter Tryz.func33,Tryz.ntmps33
 go_wp2_with fail
 refine(J5 _ _ _).mono ?_
 rintro e w' ⟨rfl,rfl⟩
 go_wp2_with fail
 exact⟨rfl,rfl,Zm _ _⟩
theorem Zp{M:List Nat}{W w:World}{O:List Qc}{B:List PanicEntry→World→Prop}{x:Int}(hw:Wd M W O w)(hB:∀w',Wd M W O w'→B (Jv 1 x) w'):Calls Tryz.prog 33 #[.int .i64 x] w (ZE (ι:=Empty) (fun i=>i.elim) (fun _=>True) M W (fun i=>i.elim) B):=
 (Q65 x w).mono fun e w' h=>.inr ⟨_,h.1,hB w' (hw.on h.2)⟩
theorem J0.cell{W:World}{z:Rv}{B g p:Nat}{F:List Rl}{D:List UInt8}(h:J0 W z B g F D p):W.cell? ⟨g,0,none⟩=some (.slice z.Af z.n z.cf)∧W.cell? ⟨g,1,none⟩=some (.slice z.As z.n z.cs)∧W.cell? ⟨g,2,none⟩=some (.slice z.Ad z.nd z.cd)∧W.cell? ⟨g,3,none⟩=some (.int .i64 (p:Int)):=by
 have hc:=h.cur
 refine⟨?_,?_,?_,?_⟩<;>(rw[cell_of_row W g _ _ _ _ hc];rfl)
section
variable {W:World}{z:Rv}{B g p:Nat}{F:List Rl}{D:List UInt8}
def PkE(D:List UInt8)(p:Nat)(W:World)(e:Ending)(w':World):Prop:=Below W.heap.size W w'∧((D[p]? =none∧e=.panicked (Jv 1 (p:Int)))∨∃c,D[p]? =some c∧e=.returned (.int .u8 (c.toNat:Int)))
set_option maxRecDepth 100000 in
set_option maxHeartbeats 4000000 in
theorem Q2I(h:J0 W z B g F D p):Calls Tryz.prog 65 #[.pointer (some ⟨g,0,none⟩)] W (PkE D p W):=by
 obtain⟨_,_,hc2,hc3⟩:=h.cell;have hl:=h.len.1;have hp:=h.hp;have hD:=h.hD
 have hby:=fun c hc=>h.byte (i:=p) (c:=c) hc
 clear h;obtain⟨Af,As,Ad,n,nd,cf,cs,cd⟩:=z
 simp only at hc2 hc3 hl hby
 subst hl
 cases hcp:D[p]? with
 |none=>
  have hpe:p=D.length:=by
   rcases Nat.lt_or_ge p D.length with hlt|hge
   ·rw[List.getElem?_eq_getElem hlt] at hcp;cases hcp
   ·omega
  subst hpe;clear hby;have HN:=Lib.hid hcp;clear hcp
  go_enter Tryz.func65,Tryz.ntmps65
  haveI:Pan (bodyPost Tryz.prog Tryz.f65 (PkE D D.length W)) (fun ch w'=>ch=Jv 1 (D.length:Int)∧Below W.heap.size W w'):=Pan.body fun ch w' hb=>⟨hb.2,.inl ⟨HN.out,by rw[hb.1]⟩⟩
  refine QE (M:=[]) (W:=W) (N:=28) (E:=[(0,.pointer (some ⟨g,0,none⟩))]) (O:=[]) ?_ (Ag.cons (Ag.nil rfl rfl) rfl) (Wd.start [] W);refine yq<|yr<|yo zA<|yl<|yn<|yq<|yq<|Xj (by kernel_rfl) (by kernel_rfl) ?_;refine Q5 zM ?_;refine Q5 (Qp rfl rfl (by decide) rfl rfl) ?_;refine Q5 zF ?_;refine Q5 zC ?_;refine Q5 zM ?_;refine Q5 (Qp rfl rfl (by decide) rfl rfl) ?_;refine Q5 zF ?_;refine Q5 zC ?_;refine Q5 zL ?_;refine Q5 zet ?_;refine XM ?_;refine yn<|y1<|yr<|yo zM ?_;refine Q1 (Qp rfl rfl (by decide) rfl rfl) ?_;refine yo zF<|yo zC ?_;exact XY (QV _ _ _ rfl rfl rfl (fun w hw=>Zp hw (fun w' hw'=>⟨rfl,hw'.k.below⟩))) rfl (by decide) (fun i=>i.elim)
 |some c=>
  have hlt:p<D.length:=(List.getElem?_eq_some_iff.1 hcp).1;obtain⟨b,o,rfl,_,hcell⟩:=hby c hcp;clear hby;have HN:=Lib.hid hcp;clear hcp;have hne:((p:Int)==(D.length:Int))=false:=beq_eq_false_iff_ne.2 (by omega)
  go_enter Tryz.func65,Tryz.ntmps65
  refine QE (M:=[]) (W:=W) (N:=28) (E:=[(0,.pointer (some ⟨g,0,none⟩))]) (O:=[]) ?_ (Ag.cons (Ag.nil rfl rfl) rfl) (Wd.start [] W);refine yq<|yr<|yo zA<|yl<|yn<|yq<|yq<|Xj (by kernel_rfl) (by kernel_rfl) ?_;refine Q5 zM ?_;refine Q5 (Qp rfl rfl (by decide) rfl rfl) ?_;refine Q5 zF ?_;refine Q5 zC ?_;refine Q5 zM ?_;refine Q5 (Qp rfl rfl (by decide) rfl rfl) ?_;refine Q5 zF ?_;refine Q5 zC ?_;refine Q5 zL ?_;refine Q5 zea ?_;refine XM ?_;refine yn<|y0<|ys<|yn<|yq<|Xj (by kernel_rfl) (by kernel_rfl) ?_;refine Q5 zM ?_;refine Q5 (Qp rfl rfl (by decide) rfl rfl) ?_;refine Q5 zF ?_;refine Q5 zC ?_;refine Q5 zM ?_;refine Q5 (Qp rfl rfl (by decide) rfl rfl) ?_;refine Q5 zF ?_;refine Q5 zC ?_;refine Q5 zi1 ?_;refine Q5 zC ?_;refine Q5 zA ?_;refine XM ?_;refine yn<|yt ?_;exact Q7 (by exact .inr rfl) rfl (.tmp rfl) (fun w hw=>⟨hw.k.below,.inr ⟨c,HN.out,rfl⟩⟩)
end
theorem Q1F{w:World}{B n c p m:Nat}{A:Option Addr}{D:List UInt8}(h:Rd w B 1 A n (bv D))(hk:p+m≤n)(hc:n≤c):((D.drop p).take m).length=m∧Rd w B 1 (ZU A c p 1) ((D.drop p).take m).length (bv ((D.drop p).take m)):=by
 have hl:D.length=n:=by have:=h.len;rw[Xu] at this;exact this
 have e:((D.drop p).take m).length=m:=by rw[List.length_take,List.length_drop];omega
 refine⟨e,?_⟩;have:=h.cut (k:=p) (m:=m) (c:=c) hk hc;rw[Nat.mul_one,Nat.mul_one] at this;rw[e]
 have e2:bv ((D.drop p).take m)=((bv D).drop p).take m:=by unfold bv;rw[List.map_take,List.map_drop]
 rw[e2];exact this
section
variable {W:World}{z:Rv}{B g p:Nat}{F:List Rl}{D:List UInt8}
set_option maxRecDepth 100000 in
set_option maxHeartbeats 4000000 in
theorem Q0r(h:J0 W z B g F D p){n:Int}(h0:0≤n)(hn:n≤9223372036854775807):Calls Tryz.prog 63 #[.pointer (some ⟨g,0,none⟩),.int .i64 n] W (ByE z B g W (ZQ D p n)):=by
 have H:=Lib.hid h;obtain⟨_,_,hc2,hc3⟩:=h.cell;have hwd:=h.wd;have hl:=h.len.1;have hp:=h.hp;have hD:=h.hD;have hcd:=h.hnd;clear h
 by_cases hlong:(D.length:Int) - p<n
 ·have HT:=Lib.hid (show ZQ D p n=some (.error D.length) by unfold ZQ;rw[if_pos hlong];rfl);rw[hl] at hlong;clear hwd;obtain⟨Af,As,Ad,nn,nd,cf,cs,cd⟩:=z
  simp only at hc2 hc3 hl hlong
  go_enter Tryz.func63,Tryz.ntmps63
  haveI:Pan (bodyPost Tryz.prog Tryz.f63 (ByE ⟨Af,As,Ad,nn,nd,cf,cs,cd⟩ B g W (ZQ D p n))) (fun ch w'=>ch=Jv 1 (nd:Int)∧Below W.heap.size W w'):=Pan.body fun ch w' hb=>⟨(XJ.of_below hb.2),.inl ⟨D.length,HT.out,by rw[hb.1,hl]⟩⟩
  refine QE (M:=[]) (W:=W) (N:=48) (E:=[(0,.pointer (some ⟨g,0,none⟩)),(1,.int .i64 n)]) (O:=[]) ?_ (Ag.cons (Ag.cons (Ag.nil rfl rfl) rfl) rfl) (Wd.start [] W);refine yq<|yr<|yo zA<|yl<|yn<|yq<|yq<|Xj (by kernel_rfl) (by kernel_rfl) ?_;refine Q5 zM ?_;refine Q5 zM ?_;refine Q5 (Qp rfl rfl (by decide) rfl rfl) ?_;refine Q5 zF ?_;refine Q5 zC ?_;refine Q5 zL ?_;refine Q5 zM ?_;refine Q5 (Qp rfl rfl (by decide) rfl rfl) ?_;refine Q5 zF ?_;refine Q5 zC ?_;refine Q5 zQ ?_;refine Q5 zgt ?_;refine XM ?_;refine yn<|y1<|yr<|yo zM ?_;refine Q1 (Qp rfl rfl (by decide) rfl rfl) ?_;refine yo zF<|yo zC<|yo zL ?_;exact XY (QV _ _ _ rfl rfl rfl (fun w hw=>Zp hw (fun w' hw'=>⟨rfl,hw'.k.below⟩))) rfl (by decide) (fun i=>i.elim)
 ·obtain⟨m,rfl⟩:∃m:Nat,n=(m:Int):=⟨n.toNat,by omega⟩;have HT:=Lib.hid (show ZQ D p (m:Int)=some (.ok ((D.drop p).take m,p+m)) by unfold ZQ;rw[if_neg hlong];rfl);rw[hl] at hlong
  have hm:p+m≤z.nd:=by omega
  obtain⟨Af,As,Ad,nn,nd,cf,cs,cd⟩:=z
  simp only at hl hlong hm hcd
  go_enter Tryz.func63,Tryz.ntmps63
  refine QE (M:=[g]) (W:=W) (N:=48) (E:=[(0,.pointer (some ⟨g,0,none⟩)),(1,.int .i64 (m:Int))]) (O:=[.blk g (.cells ([.slice Af nn cf,.slice As nn cs,.slice Ad nd cd,.int .i64 (p:Int)]:List Value).toArray 60 (0,0))]) ?_ (Ag.cons (Ag.cons (Ag.nil rfl rfl) rfl) rfl) hwd;clear hwd hc2 hc3;refine yq<|yr<|yo zA<|yl<|yn<|yq<|yq<|Xj (by kernel_rfl) (by kernel_rfl) ?_;refine Q5 zM ?_;refine Q5 zM ?_;refine Q5 (Qp rfl rfl (by decide) rfl rfl) ?_;refine Q5 zF ?_;refine Q5 (zB 0) ?_;refine Q5 zL ?_;refine Q5 zM ?_;refine Q5 (Qp rfl rfl (by decide) rfl rfl) ?_;refine Q5 zF ?_;refine Q5 (zB 0) ?_;refine Q5 zQ ?_;refine Q5 zgf ?_;refine XM ?_;refine yn<|y0<|ys<|yn<|yq<|Xj (by kernel_rfl) (by kernel_rfl) ?_;refine Q5 zM ?_;refine Q5 (Qp rfl rfl (by decide) rfl rfl) ?_;refine Q5 zF ?_;refine Q5 (zB 0) ?_;refine Q5 zM ?_;refine Q5 (Qp rfl rfl (by decide) rfl rfl) ?_;refine Q5 zF ?_;refine Q5 (zB 0) ?_;refine Q5 zM ?_;refine Q5 (Qp rfl rfl (by decide) rfl rfl) ?_;refine Q5 zF ?_;refine Q5 (zB 0) ?_;refine Q5 zM ?_;refine Q5 zP ?_;refine Q5 (Q9g (l:=p) (h:=p+m) rfl rfl (by decide) rfl rfl rfl rfl (by omega) (by omega)) ?_;refine Q5 zA ?_;refine XM ?_;refine yn<|yq<|yr<|yo zM ?_;refine Q1 (Qp rfl rfl (by decide) rfl rfl) ?_;refine yo zF<|yo (zB 0)<|yo zM<|yo zP ?_;refine Q1 (Qp rfl rfl (by decide) rfl rfl) ?_;refine yo zF ?_;refine yS 0 ?_;refine yl<|yn<|yq<|yr<|yo zM<|yo zA<|yl<|yn<|yt ?_;refine Q7 (by exact .inr rfl) rfl (.tmp rfl) (fun w hw=>⟨hw.k,.inr ⟨(D.drop p).take m,p+m,ZU Ad cd p 1,cd - p,HT.out,?_,hw.blkH,?_,?_⟩⟩)
  ·have hd:=H.out.env.dt;rw[(Q1F (c:=cd) hd hm hcd).1]
   show Ending.returned (.slice (ZU Ad cd p 1) (p+m - p) (cd - p))=_
   rw[show p+m - p=m by omega]
  ·have hd:=(H.out.env.keep H.out.hB H.out.lt hw.k).dt;exact(Q1F hd hm hcd).2
  ·rw[(Q1F (c:=cd) H.out.env.dt hm hcd).1]
   omega
end
def LtE(z:Rv)(g:Nat)(W:World)(res:Rdg Nat)(e:Ending)(w':World):Prop:=XJ [g] W w'∧((∃x:Nat,res=some (.error x)∧e=.panicked (Jv 1 x))∨∃q,res=some (.ok q)∧e=.returned (.tuple #[])∧w'.heap[g]? =some (z.obj q))
section
variable {W:World}{z:Rv}{B g p:Nat}{F:List Rl}{D:List UInt8}
theorem JN{w:World}{c:UInt8}(h:J0 w z B g F D p)(hc:D[p]? =some c):Calls Tryz.prog 65 #[.pointer (some ⟨g,0,none⟩)] w fun e w'=>e=.returned (.int .u8 (c.toNat:Int))∧Below w.heap.size w w':=
 (Q2I h).mono fun e w' ⟨hb,h⟩=>by
  rcases h with ⟨hn,_⟩|⟨c',hc',he⟩
  ·rw[hc] at hn;cases hn
  ·rw[hc] at hc';cases hc';exact⟨he,hb⟩
theorem Q14{M:List Nat}{w:World}{O:List Qc}{Bp:List PanicEntry→World→Prop}(h:J0 w z B g F D p)(hc:D[p]? =none)(hw:Wd M W O w)(hB:∀w',Wd M W O w'→Bp (Jv 1 (p:Int)) w'):Calls Tryz.prog 65 #[.pointer (some ⟨g,0,none⟩)] w (ZE (ι:=Empty) (fun i=>i.elim) (fun _=>True) M W (fun i=>i.elim) Bp):=
 (Q2I h).mono fun e w' ⟨hb,h⟩=>by
  rcases h with ⟨_,he⟩|⟨c',hc',_⟩
  ·exact .inr ⟨_,he,hB w' (hw.on hb)⟩
  ·rw[hc] at hc';cases hc'
theorem Qae{bs l:List UInt8}{p:Nat}(h:l[0]? =none)(hb:bs≠[]):Vj bs l p=some (.error p):=by
 cases bs with
 |nil=>exact absurd rfl hb
 |cons b bs=>
  cases l with
  |nil=>rfl
  |cons c l=>cases h
theorem QcI{b c:UInt8}{bs l:List UInt8}{p:Nat}(h:¬c=b):Vj (b::bs) (c::l) p=some (.error p):=by
 unfold Vj
 rw[if_neg h]
 rfl
theorem Qdi{b:UInt8}{bs l:List UInt8}{p:Nat}:Vj (b::bs) (b::l) p=Vj bs l (p+1):=by
 rw[Vj,if_pos rfl]
theorem Qdj{bs:List UInt8}{i:Nat}{b:UInt8}(h:bs[i]? =some b):bs.drop i=b::bs.drop (i+1):=Z9 h
theorem Q9b{w:World}{B n i:Nat}{A:Option Addr}{bs:List UInt8}{b:UInt8}(h:Rd w B 1 A n (bv bs))(hb:bs[i]? =some b):∃q o,A=some ⟨q,o,none⟩∧q<B∧w.cell? ⟨q,o+i,none⟩=some (.int .u8 (b.toNat:Int)):=by
 have hi:i<bs.length:=(List.getElem?_eq_some_iff.1 hb).1
 have hl:bs.length=n:=by have:=h.len;rw[Xu] at this;exact this
 obtain⟨q,o,e,hq,hc⟩:=h.2 (by omega);refine⟨q,o,e,hq,hc i _ ?_⟩
 unfold bv
 rw[List.getElem?_map,hb]
 rfl
set_option maxRecDepth 100000 in
set_option maxHeartbeats 8000000 in
theorem Q3T(h:J0 W z B g F D p){Ab:Option Addr}{nb cb:Nat}{bs:List UInt8}(hb:Rd W B 1 Ab nb (bv bs))(hnb:nb≤1048576):Calls Tryz.prog 58 #[.pointer (some ⟨g,0,none⟩),.slice Ab nb cb] W (LtE z g W (Vj bs (D.drop p) p)):=by
 have H:=Lib.hid h;have HB:=Lib.hid hb;have hwd:=h.wd
 have hlb:bs.length=nb:=by have:=hb.len;rw[Xu] at this;exact this
 have hp:=h.hp;have hD:=h.hD;obtain⟨RES,hres⟩:∃r,Vj bs (D.drop p) p=r:=⟨_,rfl⟩;have HR0:=Lib.hid hres;rw[hres];clear h hb hres;subst hlb;obtain⟨Af,As,Ad,nn,nd,cf,cs,cd⟩:=z
 go_enter Tryz.func58,Tryz.ntmps58
 haveI:Pan (bodyPost Tryz.prog Tryz.f58 (LtE ⟨Af,As,Ad,nn,nd,cf,cs,cd⟩ g W RES)) (fun ch w'=>∃x:Nat,RES=some (.error x)∧ch=Jv 1 x∧XJ [g] W w'):=Pan.body fun ch w' ⟨x,h1,h2,h3⟩=>⟨h3,.inl ⟨x,h1,by rw[h2]⟩⟩
 refine QE (M:=[g]) (W:=W) (N:=29) (E:=[(0,.pointer (some ⟨g,0,none⟩)),(1,.slice Ab bs.length cb)]) (O:=[.blk g (.cells ([.slice Af nn cf,.slice As nn cs,.slice Ad nd cd,.int .i64 (p:Int)]:List Value).toArray 60 (0,0))]) ?_ (Ag.cons (Ag.cons (Ag.nil rfl rfl) rfl) rfl) hwd;clear hwd;refine yq<|yr<|yo zM<|yo zL<|yo zM<|yl<|yn<|yb ?_;refine Z8 (ι:=Nat) (fun i=>i≤bs.length∧p+i≤D.length∧RES=Vj (bs.drop i) (D.drop (p+i)) (p+i)) (fun i=>bs.length - i) (fun i=>[(0,.pointer (some ⟨g,0,none⟩)),(6,.slice Ab bs.length cb),(7,.int .i64 (bs.length:Int)),(8,.int .i64 (i:Int))]) (fun i=>[.blk g (.cells ([.slice Af nn cf,.slice As nn cs,.slice Ad nd cd,.int .i64 ((p+i:Nat):Int)]:List Value).toArray 60 (0,0))]) 0 ⟨Nat.zero_le _,hp,HR0.out.symm⟩ (.cons rfl rfl (.cons rfl rfl (.cons rfl rfl (.cons rfl rfl .nil)))) (fun w hw=>hw) ?_
 rintro i ⟨hi,hpi,hres⟩
 have HRES:=Lib.hid hres;clear hres
 show sE _ _ _ _ _ [(0,.pointer (some ⟨g,0,none⟩)),(6,.slice Ab bs.length cb),(7,.int .i64 (bs.length:Int)),(8,.int .i64 (i:Int))] [.blk g (.cells ([.slice Af nn cf,.slice As nn cs,.slice Ad nd cd,.int .i64 ((p+i:Nat):Int)]:List Value).toArray 60 (0,0))] _
 by_cases hin:i<bs.length
 ·obtain⟨b,hbi⟩:∃b,bs[i]? =some b:=⟨_,List.getElem?_eq_getElem hin⟩;obtain⟨q,o,rfl,hqB,hcell⟩:=Q9b HB.out hbi
  have hqg:¬q=g:=by have:=H.out.hB;omega
  have hdr:=Qdj hbi
  cases hc:D[p+i]? with
  |none=>
   have HE:=Lib.hid (show RES=some (.error (p+i)) by rw[HRES.out];exact Qae (by rw[List.getElem?_drop];exact hc) (by rw[hdr];exact List.cons_ne_nil _ _));have HC:=Lib.hid hc;clear hc;refine yq<|yr<|yo zlt<|yl<|yn<|yq<|y1<|ys<|yn<|yq<|yb<|yq<|yr<|yo zi1 ?_;refine Q1 (QW rfl rfl (by decide) rfl rfl (fun w hw=>hw.cell_old hcell (by simpa using hqg))) ?_;refine yo zA<|yl<|yn<|yq<|yq<|yr<|yo zM ?_;exact XY (QV _ _ _ rfl rfl rfl (fun w hw=>Q14 (H.out.next hw.k hpi hw.blkH) HC.out hw (fun w' hw'=>⟨p+i,HE.out,rfl,hw'.k⟩))) rfl (by decide) (fun i=>i.elim)
  |some c=>
   have hlt:p+i<D.length:=(List.getElem?_eq_some_iff.1 hc).1;have hdD:=Z9 hc;have HC:=Lib.hid hc;clear hc
   by_cases hcb:c=b
   ·subst hcb;have HN:=Lib.hid (show RES=Vj (bs.drop (i+1)) (D.drop (p+(i+1))) (p+(i+1)) by rw[HRES.out,hdr,hdD,Qdi];rfl);have hne:((c.toNat:Int) != (c.toNat:Int))=false:=bne_eq_false_iff_eq.2 rfl;clear hdD;refine yq<|yr<|yo zlt<|yl<|yn<|yq<|y1<|ys<|yn<|yq<|yb<|yq<|yr<|yo zi1 ?_;refine Q1 (QW rfl rfl (by decide) rfl rfl (fun w hw=>hw.cell_old hcell (by simpa using hqg))) ?_;refine yo zA<|yl<|yn<|yq<|yq<|yr<|yo zM ?_;refine Q1 (Qb rfl rfl (by decide) rfl rfl (fun w hw=>JN (H.out.next hw.k hpi hw.blkH) HC.out)) ?_;refine yo zM<|yo zna<|yl<|yn<|y0<|ys<|yn<|yr<|yo zM ?_;refine Q1 (Qp rfl rfl (by decide) rfl rfl) ?_;refine yo zF<|yo (zB 0)<|yo zP ?_;refine Q1 (Qp rfl rfl (by decide) rfl rfl) ?_;refine yo zF ?_;refine yS 0 ?_;refine yl<|yn<|yr<|yo zP<|yo zM<|yl ?_;refine Xb (i+1) ⟨hin,hlt,HN.out⟩ (by show bs.length - (i+1)<bs.length - i;omega) (.cons rfl rfl (.cons rfl rfl (.cons rfl rfl (.cons rfl (by go_num) .nil)))) (fun w hw=>hw)
   ·have HE:=Lib.hid (show RES=some (.error (p+i)) by rw[HRES.out,hdr,hdD];exact QcI hcb);have hne:((c.toNat:Int) != (b.toNat:Int))=true:=bne_iff_ne.2 (fun h=>hcb (UInt8.toNat_inj.1 (by omega)));clear hdD;refine yq<|yr<|yo zlt<|yl<|yn<|yq<|y1<|ys<|yn<|yq<|yb<|yq<|yr<|yo zi1 ?_;refine Q1 (QW rfl rfl (by decide) rfl rfl (fun w hw=>hw.cell_old hcell (by simpa using hqg))) ?_;refine yo zA<|yl<|yn<|yq<|yq<|yr<|yo zM ?_;refine Q1 (Qb rfl rfl (by decide) rfl rfl (fun w hw=>JN (H.out.next hw.k hpi hw.blkH) HC.out)) ?_;refine yo zM<|yo zna<|yl<|yn<|y1<|yr<|yo zM ?_;refine Q1 (Qp rfl rfl (by decide) rfl rfl) ?_;refine yo zF<|yo (zB 0) ?_;exact XY (QV _ _ _ rfl rfl rfl (fun w hw=>Zp hw (fun w' hw'=>⟨p+i,HE.out,rfl,hw'.k⟩))) rfl (by decide) (fun i=>i.elim)
 ·obtain rfl:i=bs.length:=by omega
  have HE:=Lib.hid (show RES=some (.ok (p+bs.length)) by rw[HRES.out,List.drop_length];cases D.drop (p+bs.length)<;>rfl);refine yq<|yr<|yo zlf<|yl<|yn<|yq<|y0<|ye<|yx<|yx<|yu ?_;exact XT (by exact .inl rfl) rfl (fun w hw=>⟨hw.k,.inr ⟨p+bs.length,HE.out,rfl,hw.blkH⟩⟩)
end
abbrev Q7K{α:Type}(RES:Rdg α)(g:Nat)(W:World)(ch:List PanicEntry)(w':World):Prop:=∃x:Nat,RES=some (.error x)∧ch=Jv 1 x∧XJ [g] W w'
def UtE(z:Rv)(B g:Nat)(D:List UInt8)(p:Nat)(W:World)(res:Rdg Nat)(e:Ending)(w':World):Prop:=XJ [g] W w'∧((∃x:Nat,res=some (.error x)∧e=.panicked (Jv 1 x))∨∃q A c,res=some (.ok q)∧e=.returned (.slice A ((D.drop p).take (q - p)).length c)∧w'.heap[g]? =some (z.obj (q+1))∧Rd w' B 1 A ((D.drop p).take (q - p)).length (bv ((D.drop p).take (q - p)))∧((D.drop p).take (q - p)).length≤c)
section
variable {W:World}{z:Rv}{B g p:Nat}{F:List Rl}{D:List UInt8}
theorem Qb2{stop size:Int}{k p:Nat}(h:D[p]? =none):Jd stop size (D.drop p) k p=some (.error p):=by
 have:D.drop p=[]:=List.drop_eq_nil_of_le (by
  rcases Nat.lt_or_ge p D.length with hl|hl
  ·rw[List.getElem?_eq_getElem hl] at h;cases h
  ·exact hl)
 rw[this]
 rfl
theorem Qav{stop size:Int}{k p:Nat}{c:UInt8}(h:D[p]? =some c)(hs:(c.toNat:Int)=stop):Jd stop size (D.drop p) k p=some (.ok p):=by
 rw[Z9 h,Jd,if_pos hs]
 rfl
theorem Qam{stop size:Int}{k p:Nat}{c:UInt8}(h:D[p]? =some c)(hs:¬(c.toNat:Int)=stop)(hz:(k:Int)=size):Jd stop size (D.drop p) k p=some (.error p):=by
 rw[Z9 h,Jd,if_neg hs,if_pos hz]
 rfl
theorem Qac{stop size:Int}{k p:Nat}{c:UInt8}(h:D[p]? =some c)(hs:¬(c.toNat:Int)=stop)(hz:¬(k:Int)=size):Jd stop size (D.drop p) k p=Jd stop size (D.drop (p+1)) (k+1) (p+1):=by
 rw[Z9 h,Jd,if_neg hs,if_neg hz]
theorem Yx(c:UInt8):IntKind.i64.wrap (c.toNat:Int)=(c.toNat:Int):=IntWalk.i64_in _ (by have:=c.toNat_lt;omega)
set_option maxRecDepth 100000 in
set_option maxHeartbeats 8000000 in
theorem Q6n(h:J0 W z B g F D p){r:Rl}{sb sn sp:Value}:Calls Tryz.prog 64 #[.pointer (some ⟨g,0,none⟩),.agg (ruC r sb sn sp).toArray] W (UtE z B g D p W (Jd r.stop r.size (D.drop p) 0 p)):=by
 have H:=Lib.hid h;have hwd:=h.wd;have hp:=h.hp;have hD:=h.hD;have hnd:=h.len.1;have hcd:=h.hnd;obtain⟨name,kind,bs,size,big,mn,mx,stop,count,elem,names,parts⟩:=r
 simp only[ruC]
 obtain⟨RES,hres⟩:∃r,Jd stop size (D.drop p) 0 p=r:=⟨_,rfl⟩;have HR0:=Lib.hid hres;rw[hres];clear h hres;obtain⟨Af,As,Ad,nn,nd,cf,cs,cd⟩:=z
 simp only at hnd hcd
 go_enter Tryz.func64,Tryz.ntmps64
 haveI:Pan (bodyPost Tryz.prog Tryz.f64 (UtE ⟨Af,As,Ad,nn,nd,cf,cs,cd⟩ B g D p W RES)) (Q7K RES g W):=Pan.body fun ch w' ⟨x,h1,h2,h3⟩=>⟨h3,.inl ⟨x,h1,by rw[h2]⟩⟩
 refine QE (M:=[g]) (W:=W) (N:=55) (E:=[(0,.pointer (some ⟨g,0,none⟩)),(1,.agg [.string ⟨name.toArray⟩,.int .i64 kind,sb,.int .i64 size,.bool big,.int .i64 mn,.int .i64 mx,.int .i64 stop,.int .i64 count,.int .i64 elem,sn,sp].toArray)]) (O:=[.blk g (.cells ([.slice Af nn cf,.slice As nn cs,.slice Ad nd cd,.int .i64 (p:Int)]:List Value).toArray 60 (0,0))]) ?_ (Ag.cons (Ag.cons (Ag.nil rfl rfl) rfl) rfl) hwd;clear hwd;refine yq<|yr ?_;refine yB fun b3=>?_;refine yo zA<|yl<|yn<|yq<|yr<|yo zM ?_;refine Q1 (Qp rfl rfl (by decide) rfl rfl) ?_;refine yo zF<|yo (zB 1)<|yo zA<|yl<|yn<|yq<|yb ?_;refine Z8 (ι:=Nat) (fun i=>p+i≤D.length∧RES=Jd stop size (D.drop (p+i)) i (p+i)) (fun i=>D.length - i) (fun i=>[(0,.pointer (some ⟨g,0,none⟩)),(3,.pointer (some ⟨b3,0,none⟩)),(5,.int .i64 (p:Int))]) (fun i=>[.blk b3 (.cells ([.string ⟨name.toArray⟩,.int .i64 kind,sb,.int .i64 size,.bool big,.int .i64 mn,.int .i64 mx,.int .i64 stop,.int .i64 count,.int .i64 elem,sn,sp]:List Value).toArray 65 (0,0)),.blk g (.cells ([.slice Af nn cf,.slice As nn cs,.slice Ad nd cd,.int .i64 ((p+i:Nat):Int)]:List Value).toArray 60 (0,0))]) 0 ⟨hp,HR0.out.symm⟩ (.cons rfl rfl (.cons rfl rfl (.cons rfl rfl .nil))) (fun w hw=>hw) ?_
 rintro i ⟨hpi,hres⟩
 have HRES:=Lib.hid hres;clear hres
 show sE _ _ _ _ _ [(0,.pointer (some ⟨g,0,none⟩)),(3,.pointer (some ⟨b3,0,none⟩)),(5,.int .i64 (p:Int))] [.blk b3 (.cells ([.string ⟨name.toArray⟩,.int .i64 kind,sb,.int .i64 size,.bool big,.int .i64 mn,.int .i64 mx,.int .i64 stop,.int .i64 count,.int .i64 elem,sn,sp]:List Value).toArray 65 (0,0)),.blk g (.cells ([.slice Af nn cf,.slice As nn cs,.slice Ad nd cd,.int .i64 ((p+i:Nat):Int)]:List Value).toArray 60 (0,0))] _
 cases hc:D[p+i]? with
 |none=>
  have HE:=Lib.hid (show RES=some (.error (p+i)) by rw[HRES.out];exact Qb2 hc);have HC:=Lib.hid hc;clear hc;refine yq<|yq ?_;refine JR (B:=Q7K RES g W) [.blk b3 (.cells ([.string ⟨name.toArray⟩,.int .i64 kind,sb,.int .i64 size,.bool big,.int .i64 mn,.int .i64 mx,.int .i64 stop,.int .i64 count,.int .i64 elem,sn,sp]:List Value).toArray 65 (0,0)),.blk g (.cells ([.slice Af nn cf,.slice As nn cs,.slice Ad nd cd,.int .i64 ((p+i:Nat):Int)]:List Value).toArray 60 (0,0))] [] (by kernel_rfl) ?_ ?_
  ·infer_instance
  refine Xp 0 rfl (by kernel_rfl) (Q2.rfl_) zM ?_;refine Xp 3 rfl (by kernel_rfl) (Q2.rfl_) zF ?_;refine Xp 4 rfl (by kernel_rfl) (Q2.rfl_) (zB 0) ?_;exact Ks 1 (by kernel_rfl) rfl rfl (QV _ _ _ rfl rfl rfl (fun w hw=>Q14 (H.out.next hw.k hpi (hw.own 1 _ rfl)) HC.out hw (fun w' hw'=>⟨p+i,HE.out,rfl,hw'.k⟩))) (fun i=>i.elim) rfl (by decide) (fun i=>i.elim)
 |some c=>
  have hlt:p+i<D.length:=(List.getElem?_eq_some_iff.1 hc).1;have HC:=Lib.hid hc;have hcv:=Yx c;clear hc
  by_cases hs:(c.toNat:Int)=stop
  ·have HE:=Lib.hid (show RES=some (.ok (p+i)) by rw[HRES.out];exact Qav HC.out hs);have hne:((c.toNat:Int) != stop)=false:=bne_eq_false_iff_eq.2 hs;refine yq<|yq<|Xj (by kernel_rfl) (by kernel_rfl) ?_;refine Q5 zM ?_;refine Q5 (Qb rfl rfl (by decide) rfl rfl (fun w hw=>JN (H.out.next hw.k hpi (hw.own 1 _ rfl)) HC.out)) ?_;refine Q5 (XE rfl rfl (by decide) rfl rfl rfl Tryz.underlying3 hcv) ?_;refine Q5 zF ?_;refine Q5 (zB 0) ?_;refine Q5 zna ?_;refine XM ?_;refine yn<|y0<|ye<|yn<|yq<|yr<|yo zM ?_;refine Q1 (Qp rfl rfl (by decide) rfl rfl) ?_;refine yo zF<|yo (zB 1)<|yo zP ?_;refine Q1 (Qp rfl rfl (by decide) rfl rfl) ?_;refine yo zF ?_;refine yS 1 ?_;refine yl<|yn<|yq<|Xj (by kernel_rfl) (by kernel_rfl) ?_;refine Q5 zM ?_;refine Q5 (Qp rfl rfl (by decide) rfl rfl) ?_;refine Q5 zF ?_;refine Q5 (zB 1) ?_;refine Q5 zM ?_;refine Q5 zM ?_;refine Q5 (Qp rfl rfl (by decide) rfl rfl) ?_;refine Q5 zF ?_;refine Q5 (zB 1) ?_;refine Q5 zQ ?_;refine Q5 (Q9g (l:=p) (h:=p+i) rfl rfl (by decide) rfl rfl rfl (congrArg (fun x:Int=>some (Value.int .i64 x)) (show ((p+i:Nat):Int)+1 - 1=((p+i:Nat):Int) by omega)) (by omega) (by omega)) ?_;refine Q5 zA ?_;refine XM ?_;refine yn<|yt ?_;refine Q7 (by exact .inr rfl) rfl (.tmp rfl) (fun w hw=>⟨hw.k,.inr ⟨p+i,ZU Ad cd p 1,cd - p,HE.out,?_,hw.own 1 _ rfl,?_,?_⟩⟩)
   ·have hd:Rd W B 1 Ad nd (bv D):=H.out.env.dt;rw[show p+i - p=i by omega,(Q1F (p:=p) (m:=i) (c:=cd) hd (by omega) hcd).1]
   ·have hd:Rd w B 1 Ad nd (bv D):=(H.out.env.keep H.out.hB H.out.lt hw.k).dt;rw[show p+i - p=i by omega];exact(Q1F (p:=p) (m:=i) hd (by omega) hcd).2
   ·rw[show p+i - p=i by omega,(Q1F (p:=p) (m:=i) (n:=nd) (c:=cd) H.out.env.dt (by omega) hcd).1]
    omega
  ·have hne:((c.toNat:Int) != stop)=true:=bne_iff_ne.2 hs
   by_cases hz:(i:Int)=size
   ·have HE:=Lib.hid (show RES=some (.error (p+i)) by rw[HRES.out];exact Qam HC.out hs hz);refine yq<|yq<|Xj (by kernel_rfl) (by kernel_rfl) ?_;refine Q5 zM ?_;refine Q5 (Qb rfl rfl (by decide) rfl rfl (fun w hw=>JN (H.out.next hw.k hpi (hw.own 1 _ rfl)) HC.out)) ?_;refine Q5 (XE rfl rfl (by decide) rfl rfl rfl Tryz.underlying3 hcv) ?_;refine Q5 zF ?_;refine Q5 (zB 0) ?_;refine Q5 zna ?_;refine XM ?_;refine yn<|y1<|ys<|yn<|yb<|yq<|yq<|Xj (by kernel_rfl) (by kernel_rfl) ?_;refine Q5 zM ?_;refine Q5 (Qp rfl rfl (by decide) rfl rfl) ?_;refine Q5 zF ?_;refine Q5 (zB 1) ?_;refine Q5 zM ?_;refine Q5 zQ ?_;refine Q5 zF ?_;refine Q5 (zB 0) ?_;refine Q5 zet ?_;refine XM ?_;refine yn<|y1<|yr<|yo zM ?_;refine Q1 (Qp rfl rfl (by decide) rfl rfl) ?_;refine yo zF<|yo (zB 1) ?_;exact XY (QV _ _ _ rfl rfl rfl (fun w hw=>Zp hw (fun w' hw'=>⟨p+i,HE.out,rfl,hw'.k⟩))) rfl (by decide) (fun i=>i.elim)
   ·have HN:=Lib.hid (show RES=Jd stop size (D.drop (p+(i+1))) (i+1) (p+(i+1)) by rw[HRES.out];exact Qac HC.out hs hz);refine yq<|yq<|Xj (by kernel_rfl) (by kernel_rfl) ?_;refine Q5 zM ?_;refine Q5 (Qb rfl rfl (by decide) rfl rfl (fun w hw=>JN (H.out.next hw.k hpi (hw.own 1 _ rfl)) HC.out)) ?_;refine Q5 (XE rfl rfl (by decide) rfl rfl rfl Tryz.underlying3 hcv) ?_;refine Q5 zF ?_;refine Q5 (zB 0) ?_;refine Q5 zna ?_;refine XM ?_;refine yn<|y1<|ys<|yn<|yb<|yq<|yq<|Xj (by kernel_rfl) (by kernel_rfl) ?_;refine Q5 zM ?_;refine Q5 (Qp rfl rfl (by decide) rfl rfl) ?_;refine Q5 zF ?_;refine Q5 (zB 1) ?_;refine Q5 zM ?_;refine Q5 zQ ?_;refine Q5 zF ?_;refine Q5 (zB 0) ?_;refine Q5 zef ?_;refine XM ?_;refine yn<|y0<|ys<|yn<|yr<|yo zM ?_;refine Q1 (Qp rfl rfl (by decide) rfl rfl) ?_;refine yo zF<|yo (zB 1)<|yo zP ?_;refine Q1 (Qp rfl rfl (by decide) rfl rfl) ?_;refine yo zF ?_;refine yS 1 ?_;refine yl<|yd ?_;refine Xb (i+1) ⟨hlt,HN.out⟩ (by show D.length - (i+1)<D.length - i;omega) (.cons rfl rfl (.cons rfl rfl (.cons rfl rfl .nil))) (fun w hw=>hw)
end
end Go.Proofs.YtphkhfdmlcnoeaaGreatDoor
