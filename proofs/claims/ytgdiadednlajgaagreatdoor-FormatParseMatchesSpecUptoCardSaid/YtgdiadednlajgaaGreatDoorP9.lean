import Derived.Test.YtgdiadednlajgaaGreatDoorP7
import Derived.Test.YtgdiadednlajgaaGreatDoorP8
import Derived.Test.YtgdiadednlajgaaGreatDoorP11
import Derived.WalkSmall
import Derived.Test.YtgdiadednlajgaaGreatDoorCards
import Derived.Test.YtgdiadednlajgaaGreatDoorTie
import Derived.Deep.DeepWitnessRowRef
import Derived.Lib.LaidIn
import Derived.Stop.LaidErr
namespace Go.Proofs.YtgdiadednlajgaaGreatDoor
set_option linter.unusedVariables false
set_option linter.unusedSimpArgs false
open Go.RowKit
abbrev ruC(r:Rl)(sb sn sp:Value):List Value:=[.string ⟨r.name.toArray⟩,.int .i64 r.kind,sb,.int .i64 r.size,.bool r.big,.int .i64 r.mn,.int .i64 r.mx,.int .i64 r.stop,.int .i64 r.count,.int .i64 r.elem,sn,sp]
structure RuL(W:World)(r:Rl)(Ab:Option Addr)(cb:Nat)(An:Option Addr)(cn:Nat)(Ap:Option Addr)(cp:Nat):Prop where
 cb:r.bs.length≤cb
 cn:r.names.length≤cn
 cp:r.parts.length≤cp
 b:Rd W W.heap.size 1 Ab r.bs.length (bv r.bs)
 n:Rd W W.heap.size 1 An r.names.length (sv r.names)
 p:Rd W W.heap.size 1 Ap r.parts.length (iv r.parts)
theorem RuL.on{W w:World}{r:Rl}{Ab An Ap:Option Addr}{cb cn cp:Nat}(h:RuL W r Ab cb An cn Ap cp)(hb:Below W.heap.size W w):RuL w r Ab cb An cn Ap cp:=
 ⟨h.cb,h.cn,h.cp,(h.b.below hb).more hb.size,(h.n.below hb).more hb.size,(h.p.below hb).more hb.size⟩
theorem Q0i.lists{W:World}{r:Rl}{sb sn sp:Value}(h:Q0i W W.heap.size r sb sn sp):∃Ab cb An cn Ap cp,sb=.slice Ab r.bs.length cb∧sn=.slice An r.names.length cn∧sp=.slice Ap r.parts.length cp∧RuL W r Ab cb An cn Ap cp:=by
 obtain⟨Ab,nb,cb,An,nn,cn,Ap,np,cp,rfl,rfl,rfl,h1,h2,h3,h4,h5,h6⟩:=h
 have e1:r.bs.length=nb:=by have:=h4.len;rw[Q5H] at this;exact this
 have e2:r.names.length=nn:=by have:=h5.len;rw[Q1R] at this;exact this
 have e3:r.parts.length=np:=by have:=h6.len;rw[Kj] at this;exact this
 subst e1;subst e2;subst e3;exact⟨Ab,cb,An,cn,Ap,cp,rfl,rfl,rfl,h1,h2,h3,h4,h5,h6⟩
theorem K4.range{w:World}{b o:Nat}{r:Rl}{sb sn sp:Value}(h:K4 w b o r sb sn sp):w.rangeAt b o (ruC r sb sn sp):=by
 obtain⟨h0,h1,h2,h3,h4,h5,h6,h7,h8,h9,h10,h11⟩:=h;intro j v hv
 match j,hv with
 |0,hv=>cases hv;exact h0
 |1,hv=>cases hv;exact h1
 |2,hv=>cases hv;exact h2
 |3,hv=>cases hv;exact h3
 |4,hv=>cases hv;exact h4
 |5,hv=>cases hv;exact h5
 |6,hv=>cases hv;exact h6
 |7,hv=>cases hv;exact h7
 |8,hv=>cases hv;exact h8
 |9,hv=>cases hv;exact h9
 |10,hv=>cases hv;exact h10
 |11,hv=>cases hv;exact h11
 |j+12,hv=>cases hv
theorem Xq.rule{W:World}{A:Option Addr}{n i:Nat}{F:List Rl}(h:Xq W W.heap.size A n F)(hi:i<n):∃b o r Ab cb An cn Ap cp,A=some ⟨b,o,none⟩∧F[i]? =some r∧W.rangeAt b (o+i*12) (ruC r (.slice Ab r.bs.length cb) (.slice An r.names.length cn) (.slice Ap r.parts.length cp))∧RuL W r Ab cb An cn Ap cp:=by
 obtain⟨b,o,r,sb,sn,sp,e,hb,hr,hc,hs⟩:=h.at_ hi;obtain⟨Ab,cb,An,cn,Ap,cp,rfl,rfl,rfl,hl⟩:=hs.lists;exact⟨b,o,r,Ab,cb,An,cn,Ap,cp,e,hr,hc.range,hl⟩
structure RSm(r:Rl):Prop where
 name:r.name.length≤1048576
 bs:r.bs.length≤1048576
 names:r.names.length≤1048576
 parts:r.parts.length≤1048576
 each:∀s∈r.names,s.length≤1048576
def FSm(F:List Rl):Prop:=F.length≤1048576∧∀r∈F,RSm r
theorem Wd.range_old{M:List Nat}{W w:World}{O:List Qg}{b q:Nat}{cs:List Value}(hr:W.rangeAt b q cs)(hM:b∉M)(h:Wd M W O w):w.rangeAt b q cs:=fun j v hv=>h.cell_old (hr j v hv) hM
theorem Wd.cell_range{M:List Nat}{W w:World}{O:List Qg}{b q j:Nat}{cs:List Value}{v:Value}(hr:W.rangeAt b q cs)(hv:cs[j]? =some v)(hM:b∉M)(h:Wd M W O w):w.cell? ⟨b,q+j,none⟩=some v:=h.cell_old (hr j v hv) hM
section
variable {P:Program}{ops:Array Oper}{C:World→Prop}{N:Nat}{E:Env}{o:Oper}{d:Nat}
theorem Qv{t e:TypeId}{x y:Operand}{b q n c s bytes:Nat}{k:IntKind}{m:Int}[hT:Sl P t e s bytes](ho:o.op=.indexAddr t x y)(hd:o.dst=some d)(hN:d<N)(hw:Qm ops E o=some true)(hx:ev E x=some (.slice (some ⟨b,q,none⟩) n c))(hy:ev E y=some (.int k m))(hj:0≤m∧m<n):oE P ops C N E ((d,.pointer (some ⟨b,q+m.toNat*s,none⟩))::E) o:=by
 obtain⟨j,rfl⟩:∃j:Nat,m=(j:Int):=⟨m.toNat,by omega⟩;exact Zy ho hd hN hw hx hy (by omega)
theorem Qo{t e:TypeId}{x y:Operand}{b q n c bytes:Nat}{k:IntKind}{m:Int}[hT:Sl P t e 1 bytes](ho:o.op=.indexAddr t x y)(hd:o.dst=some d)(hN:d<N)(hw:Qm ops E o=some true)(hx:ev E x=some (.slice (some ⟨b,q,none⟩) n c))(hy:ev E y=some (.int k m))(hj:0≤m∧m<n):oE P ops C N E ((d,.pointer (some ⟨b,q+m.toNat,none⟩))::E) o:=by
 have:=Qv (P:=P) (C:=C) ho hd hN hw hx hy hj;rwa [Nat.mul_one] at this
end
def X5(r:Rl)(early:List Rl)(n:Nat):Int:=
 if !(Qi r.name) then 7
 else if decide (0≤Xa early r.name) then 8
 else if !(inB r.kind 1 10) then 5
 else if !(XI r.kind r.size r.big r.mn r.mx r.stop r.count r.elem r.bs.length r.names.length r.parts.length) then 6
 else if r.kind==1&&((r.bs.length:Int)==0) then 10
 else if decide (16<(r.bs.length:Int)) then 3
 else if r.kind==7&&((r.names.length:Int) != (r.parts.length:Int)) then 9
 else if (r.kind==7&&((r.parts.length:Int)==0)) then 10
 else if (r.kind==8&&decide ((r.parts.length:Int)<2)) then 10
 else if decide (12<(r.parts.length:Int)) then 2
 else if !(Qt r.kind r.size r.mn r.mx r.stop r.count r.elem r.parts n) then 4
 else 0
theorem VM{a0:Value}{k size mn mx stop count elem:Int}{big:Bool}{Ab An Ap:Option Addr}{nb cb nn cn np cp n:Nat}{parts:List Int}{w:World}(hk:inB k 1 10=true)(hn:n≤1048576)(hp:Rd w w.heap.size 1 Ap np (iv parts))(hnp:np≤1048576):
  Calls Tryz.prog 91 #[.agg #[a0,.int .i64 k,.slice Ab nb cb,.int .i64 size,.bool big,.int .i64 mn,.int .i64 mx,.int .i64 stop,.int .i64 count,.int .i64 elem,.slice An nn cn,.slice Ap np cp],.int .i64 (n:Int)] w fun e w'=>e=.returned (.bool (Qt k size mn mx stop count elem parts n))∧Below w.heap.size w w':=by
 have hk':1≤k∧k≤10:=by unfold inB at hk;simpa using hk
 rcases (show k=1∨k=2∨k=3∨k=4∨k=5∨k=6∨k=7∨k=8∨k=9∨k=10 by omega) with rfl|rfl|rfl|rfl|rfl|rfl|rfl|rfl|rfl|rfl
 ·exact Qbk w hn hp hnp
 ·exact QaN w hn
 ·exact QbI w hn
 ·exact QbW w hn
 ·exact Qb9 w hn
 ·exact Qb2 w hn
 ·exact Qc8 w hn hp hnp
 ·exact QbL w hn hp hnp
 ·exact QaH w hn
 ·exact Q9X w hn
def JA:List (List UInt8):=[[108,105,116,101,114,97,108],[110,117,109,98,101,114],[100,101,99,105,109,97,108],[98,121,116,101,115],[117,110,116,105,108],[99,111,117,110,116,101,100],[115,101,113,117,101,110,99,101],[99,104,111,105,99,101],[114,101,112,101,97,116],[98,108,111,98]]
def Xz(k:Int):List UInt8:=JA.getD (k - 1).toNat []
def hx(n:Nat):UInt8:=UInt8.ofNat (if n<10 then 48+n else 87+n)
def Kx(c:UInt8):List UInt8:=[hx (c.toNat / 16),hx (c.toNat % 16)]
def Jr(bs:List UInt8):List UInt8:=(bs.map Kx).flatten
def Zv(F:List Rl)(x:Int):List UInt8:=match F[x.toNat]? with|some r=>r.name|none=>[]
theorem Q0c{F:List Rl}{x:Int}{r:Rl}(h:F[x.toNat]? =some r):Zv F x=r.name:=by unfold Zv;rw[h]
def V3:List UInt8:=[98,105,103]
def Ze:List UInt8:=[108,105,116,116,108,101]
def XW(F:List Rl)(r:Rl)(i:Nat):List UInt8:=(if r.kind==7 then (if r.names.getD i []==[] then [45] else r.names.getD i [])++[58] else [])++Zv F (r.parts.getD i 0)
def ifW(u:Bool)(s:List UInt8):List (List UInt8):=if u then [s] else []
def KI(F:List Rl)(r:Rl):List (List UInt8):=
 [r.name,Xz r.kind]++ifW (r.kind==1) (Jr r.bs)++ifW (Z7 r.kind) (Lib.itoa r.stop)++ifW (Z4 r.kind) (Lib.itoa r.size)++ifW (r.kind==2) (if r.big then V3 else Ze)++ifW (r.kind==2) (Lib.itoa r.mn)++ifW (Zf r.kind) (Lib.itoa r.mx)++ifW (Qp r.kind) (Zv F r.count)++ifW (XJ r.kind) (Zv F r.elem)
def XZ(F:List Rl)(r:Rl):List (List UInt8):=KI F r++(List.range r.parts.length).map (XW F r)
def YF(F:List Rl)(r:Rl):List UInt8:=Lib.join (XZ F r) [32]++[10]
def J1(F:List Rl):List UInt8:=(F.map (YF F)).flatten
structure Rs where
 ws:List (List UInt8)
 bad:Bool
 ns:List (List UInt8)
def XF(x:List UInt8):Int:=match Lib.atoiAll x with|.ok v=>v|.range=>Lib.atoiSat x|_=>0
def Z0(x:List UInt8):Bool:=match Lib.atoiAll x with|.ok v=>!(decide (10<x.length))&&(!(decide (v<0))&&Lib.itoa v==x)|_=>false
def Xc(c:UInt8):Int:=if 48≤c.toNat∧c.toNat≤57 then (c.toNat:Int) - 48 else if 97≤c.toNat∧c.toNat≤102 then (c.toNat:Int) - 87 else -1
def JH(a b:UInt8):UInt8:=UInt8.ofNat (((Xc a)*16+Xc b) % 256).toNat
def X3:List UInt8→Option (List UInt8)
 |[]=>some []
 |[_]=>none
 |a::b::l=>if Xc a<0∨Xc b<0 then none else (X3 l).map (JH a b::·)
def Q7s(b:UInt8):List (List UInt8)→List (List UInt8)
 |[]=>[[b]]
 |w::t=>(b::w)::t
def spl(c:UInt8):List UInt8→List (List UInt8)
 |[]=>[[]]
 |b::l=>if b=c then []::spl c l else Q7s b (spl c l)
theorem Q6I(c:UInt8)(l:List UInt8):Lib.index (c::l) [c]=0:=by
 unfold Lib.index
 simp [List.isPrefixOf]
theorem Q6t{b c:UInt8}(h:b≠c)(l:List UInt8):Lib.index (b::l) [c]=if Lib.index l [c]=-1 then -1 else Lib.index l [c]+1:=by
 have hp:([c]:List UInt8).isPrefixOf (b::l)=false:=by simp [List.isPrefixOf,Ne.symm h]
 rw[Lib.index,hp]
 simp
theorem Q6i{b c:UInt8}(h:b≠c)(l:List UInt8):∀k,Lib.splitK [c] 0 k (b::l)=Q7s b (Lib.splitK [c] 0 k l)
 |0=>rfl
 |k+1=>by
  unfold Lib.splitK
  rw[Q6t h]
  by_cases hi:Lib.index l [c]=-1
  ·rw[hi];rfl
  ·have hge:=Lib.index_ge l [c];rw[if_neg hi,if_neg (by rw[beq_iff_eq];omega),if_neg (by rw[beq_iff_eq];exact hi)]
   have e:(Lib.index l [c]+1).toNat=(Lib.index l [c]).toNat+1:=by omega
   rw[e]
   rfl
theorem Q41(c:UInt8):∀s:List UInt8,Lib.split s [c]=spl c s
 |[]=>rfl
 |b::l=>by
  unfold spl
  by_cases h:b=c
  ·subst h;rw[if_pos rfl]
   unfold Lib.split
   rw[Lib.count_cons_eq,Nat.add_comm,Lib.splitK,Q6I,if_neg (by decide)];rw[← Q41 b l]
   rfl
  ·rw[if_neg h,← Q41 c l]
   unfold Lib.split
   rw[Lib.count_cons_ne b c l h,Q6i h]
def Xp(c:UInt8):List UInt8→List UInt8×List UInt8×Bool
 |[]=>([],[],false)
 |b::l=>if b=c then ([],l,true) else (b::(Xp c l).1,(Xp c l).2)
theorem Qb5(c:UInt8):∀s:List UInt8,Lib.cut s [c]=Xp c s
 |[]=>rfl
 |b::l=>by
  unfold Xp
  by_cases h:b=c
  ·subst h;rw[if_pos rfl]
   unfold Lib.cut
   rw[Q6I,if_pos (by decide)]
   rfl
  ·rw[if_neg h,← Qb5 c l]
   unfold Lib.cut
   rw[Q6t h]
   by_cases hi:Lib.index l [c]=-1
   ·rw[hi];rfl
   ·have hge:=Lib.index_ge l [c];rw[if_neg hi,if_pos (by omega),if_pos (by omega)]
    have e:(Lib.index l [c]+1).toNat=(Lib.index l [c]).toNat+1:=by omega
    have e2:(Lib.index l [c]).toNat+1+[c].length=((Lib.index l [c]).toNat+[c].length)+1:=by omega
    rw[e,e2]
    rfl
theorem Vo{c:UInt8}:∀{s t r:List UInt8},Xp c s=(t,r,true)→spl c s=t::spl c r∧s=t++c::r∧c∉t
 |[],t,r,h=>by cases h
 |b::l,t,r,h=>by
  unfold Xp at h
  rw[show spl c (b::l)=if b=c then []::spl c l else Q7s b (spl c l) from rfl]
  by_cases hb:b=c
  ·rw[if_pos hb] at h ⊢
   cases h
   exact⟨rfl,by rw[hb];rfl,by simp⟩
  ·rw[if_neg hb] at h ⊢;have h1:b::(Xp c l).1=t:=congrArg (·.1) h;have h2:(Xp c l).2=(r,true):=congrArg (·.2) h;have:=Vo (s:=l) (t:=(Xp c l).1) (r:=r) (by rw[← h2]);rw[this.1,← h1];refine⟨rfl,by rw[List.cons_append,← this.2.1],?_⟩;intro hm
   rcases List.mem_cons.1 hm with e|e
   ·exact hb e.symm
   ·exact this.2.2 e
theorem Q58{c:UInt8}:∀{s t r:List UInt8},Xp c s=(t,r,false)→spl c s=[s]∧t=s∧r=[]∧c∉s
 |[],t,r,h=>by cases h;exact⟨rfl,rfl,rfl,by simp⟩
 |b::l,t,r,h=>by
  unfold Xp at h
  unfold spl
  by_cases hb:b=c
  ·rw[if_pos hb] at h;cases h
  ·rw[if_neg hb] at h ⊢;have h1:b::(Xp c l).1=t:=congrArg (·.1) h;have h2:(Xp c l).2=(r,false):=congrArg (·.2) h;have:=Q58 (s:=l) (t:=(Xp c l).1) (r:=r) (by rw[← h2]);rw[this.1,← h1];refine⟨rfl,by rw[this.2.1],this.2.2.1,?_⟩;intro hm
   rcases List.mem_cons.1 hm with e|e
   ·exact hb e.symm
   ·exact this.2.2.2 e
theorem Q5W{c:UInt8}:∀{x:List UInt8},c∉x→spl c x=[x]
 |[],_=>rfl
 |b::l,h=>by
  unfold spl
  rw[if_neg (fun e=>h (by rw[e];exact List.mem_cons_self)),Q5W fun hm=>h (List.mem_cons_of_mem _ hm)]
  rfl
theorem Q2U{c:UInt8}:∀{x:List UInt8} (s:List UInt8),c∉x→spl c (x++c::s)=x::spl c s
 |[],s,_=>by
  show spl c (c::s)=_
  rw[spl,if_pos rfl]
 |b::l,s,h=>by
  show spl c (b::(l++c::s))=_
  rw[spl,if_neg (fun e=>h (by rw[e];exact List.mem_cons_self)),Q2U s fun hm=>h (List.mem_cons_of_mem _ hm)]
  rfl
theorem Kz(c:UInt8):∀s:List UInt8,spl c s≠[]
 |[]=>by simp [spl]
 |b::l=>by
  unfold spl
  split
  ·simp
  ·cases spl c l<;>simp [Q7s]
theorem XH(sep y:List UInt8)(r:List (List UInt8)):Lib.joinTail sep (y::r)=sep++(y++Lib.joinTail sep r):=by
 unfold Lib.joinTail
 rw[List.map_cons,List.flatten_cons,List.append_assoc]
theorem Q7f{c:UInt8}:∀(x:List UInt8) (r:List (List UInt8)),(∀w∈x::r,c∉w)→spl c (Lib.join (x::r) [c])=x::r
 |x,[],h=>by
  rw[Lib.join_one];exact Q5W (h x List.mem_cons_self)
 |x,y::r,h=>by
  rw[Lib.join_cons,XH]
  have ih:=Q7f y r fun w hw=>h w (List.mem_cons_of_mem _ hw)
  rw[Lib.join_cons] at ih
  show spl c (x++c::(y++Lib.joinTail [c] r))=_
  rw[Q2U _ (h x List.mem_cons_self),ih]
theorem Q8u(b:UInt8)(c:List UInt8):∀l:List (List UInt8),l≠[]→Lib.join (Q7s b l) c=b::Lib.join l c
 |[],h=>absurd rfl h
 |w::t,_=>by
  show Lib.join ((b::w)::t) c=_
  rw[Lib.join_cons,Lib.join_cons]
  rfl
theorem KM(c:UInt8):∀s:List UInt8,Lib.join (spl c s) [c]=s
 |[]=>Lib.join_one _ _
 |b::l=>by
  unfold spl
  by_cases h:b=c
  ·rw[if_pos h];have ih:=KM c l
   cases hs:spl c l with
   |nil=>exact absurd hs (Kz c l)
   |cons w t=>
    rw[hs,Lib.join_cons] at ih;rw[Lib.join_cons,XH,ih,h]
    rfl
  ·rw[if_neg h,Q8u _ _ _ (Kz c l),KM c l]
structure GV(w:World):Prop where
 pow : Lib.TabIs Tryz.prog w "internal/strconv.uint64pow10" .u64 Lib.pow10Tab
 sp : Lib.TabIs Tryz.prog w "strings.asciiSpace" .u8 Lib.asciiSpaceTab
 ml:∃m,w.cell? ⟨2,0,none⟩=some (.int .i64 m)
 e1:∃te pe,w.cell? ⟨4,0,none⟩=some (.iface te pe)
 e2:∃te pe,w.cell? ⟨5,0,none⟩=some (.iface te pe)
theorem Q22{w w':World}{p:Addr}{v:Value}(h:w.cell? p=some v)(hb:Below w.heap.size w w'):w'.cell? p=some v:=(hb.cell (Q1t h)).trans h
theorem Q6U{n:String}{g:Nat}{k:IntKind}{zs:List Int}{w w':World}(hg:Tryz.prog.globalNamed n=some g)(h:Lib.TabIs Tryz.prog w n k zs)(h0:0<zs.length)(hb:Below w.heap.size w w'):Lib.TabIs Tryz.prog w' n k zs:=
 var?_below hb hg (Q1t (h.cell hg 0 h0)) h
theorem GV.on{w w':World}(h:GV w)(hb:Below w.heap.size w w'):GV w':=
 ⟨Q6U (g:=3) (by kernel_rfl) h.pow (by rw[Lib.pow10Tab_length];decide) hb,Q6U (g:=0) (by kernel_rfl) h.sp (by rw[Lib.asciiSpaceTab_length];decide) hb,h.ml.imp fun m hm=>Q22 hm hb,by
  obtain⟨a,b,hc⟩:=h.e1
  exact⟨a,b,Q22 hc hb⟩,by
  obtain⟨a,b,hc⟩:=h.e2
  exact⟨a,b,Q22 hc hb⟩⟩
theorem Q8r(w:World)(os:Array Obj):Below w.heap.size w { w with heap:=w.heap++os }:=⟨rfl,rfl,rfl,by simp,fun k hk=>by simp only;rw[Array.getElem?_append_left hk]⟩
theorem Y3{w:World}(hg:GV w){n:Int}(h0:-9223372036854775808≤n)(h1:n≤9223372036854775807):Calls Tryz.prog 67 #[.int .i64 n] w fun e w'=>e=.returned (.string ⟨(Lib.itoa n).toArray⟩)∧Below w.heap.size w w':=by
 refine(Tryz.strconv_Itoa n h0 h1 w hg.pow).mono ?_
 rintro e w' ⟨rfl,k,os,rfl⟩
 exact⟨rfl,Below.trans (Vq w k) (Q8r (w.drewN k) os)⟩
theorem Q7C{w:World}{A:Option Addr}{n c:Nat}{ws:List (List UInt8)}(hr:Rd w w.heap.size 1 A n (sv ws))(hc:n≤c)(hn:n≤1048576)(hl:(Lib.join ws [32]).length≤1000000):Calls Tryz.prog 72 #[.slice A n c,.string ⟨#[32]⟩] w fun e w'=>e=.returned (.string ⟨(Lib.join ws [32]).toArray⟩)∧Below w.heap.size w w':=by
 have hlen:ws.length=n:=by have:=hr.len;rw[Q1R] at this;exact this
 by_cases h0:0<n
 ·obtain⟨b,o,rfl,hb,hcells⟩:=hr.2 h0
  have hmap:(ws.map fun l=>(⟨l.toArray⟩:ByteArray)).map (fun s=>s.data.toList)=ws:=by
   rw[List.map_map];exact List.map_id'' (fun l=>by simp) ws
  have h:=Tryz.strings_Join b o c (ws.map fun l=>⟨l.toArray⟩) ⟨#[32]⟩ w (fun j x hx=>hcells j _ (by
   unfold sv
   rw[List.getElem?_map] at hx ⊢
   cases hw:ws[j]? with
   |none=>rw[hw] at hx;cases hx
   |some l=>rw[hw] at hx;cases hx;rfl)) hb (by rw[List.length_map];omega) (by rw[List.length_map];omega) (by rw[hmap];show (Lib.join ws [32]).length≤_;omega)
  rw[hmap,List.length_map,hlen] at h;exact h
 ·obtain rfl:n=0:=by omega
  obtain rfl:ws=[]:=List.eq_nil_of_length_eq_zero hlen
  exact(Tryz.strings_Join_none A c ⟨#[32]⟩ w).mono fun e w' ⟨he,hw⟩=>⟨by rw[he];rfl,hw▸Below.refl _ _⟩
open Go.ChangeShapes Go.WideShapes Go.ChangeAt Go.RowKit Go.Deep
def Q2j : List (String × DataW Unit) := [("math/bits.deBruijn32tab", Rows.laid_math_bits_deBruijn32tab), ("math/bits.deBruijn64tab", Rows.laid_math_bits_deBruijn64tab), ("internal/strconv.uint64pow10", Rows.laid_internal_strconv_uint64pow10), ("unicode/utf8.acceptRanges", Rows.laid_unicode_utf8_acceptRanges), ("strconv.ErrRange", Rows.laid_strconv_ErrRange), ("strconv.ErrSyntax", Rows.laid_strconv_ErrSyntax), ("unicode.White_Space", Rows.laid_unicode_White_Space), ("strings.asciiSpace", Rows.laid_strings_asciiSpace), ("unicode/utf8.first", Rows.laid_unicode_utf8_first)]
theorem Qbw (u : TypeId) (h : Tryz.prog.typeName? 3 u = some "*errors.errorString") : u = 196 :=
 typeName_ptr_named (nm := "errors.errorString") (by kernel_rfl) (by kernel_rfl) (by decide) u h
set_option maxRecDepth 1000000 in
theorem Q4U{W:World}(hL:laidMet Tryz.prog Q2j W)(hsh:W.ShapedOpen Tryz.prog):GV W:=by
 have t2:=hL.tail.tail;have t4:=t2.tail.tail;have t5:=t4.tail;have t7:=t5.tail.tail;refine⟨?_,?_,?_,?_,?_⟩
 ·exact Lib.tabIs_of_head (g:=3) (zs:=Lib.pow10Tab) (n:=20) (by kernel_rfl) (by kernel_rfl) Tryz.underlying182 Tryz.underlying159 (by kernel_rfl) (by kernel_rfl) t2
 ·exact Lib.tabIs_of_head (g:=0) (zs:=Lib.asciiSpaceTab) (n:=256) (by kernel_rfl) (by kernel_rfl) Tryz.underlying114 Tryz.underlying5 (by kernel_rfl) (by kernel_rfl) t7
 ·exact cell_of_shapedOpen_int (zero:=#[.int .i64 0]) (t:=3) hsh (of_decide_eq_true (by kernel_rfl)) (by kernel_rfl) rfl (by kernel_rfl) (by kernel_rfl) Tryz.underlying3
 ·obtain⟨a,s,hv,_⟩:=laid_sentinel (g:=4) t5 (by kernel_rfl) (by kernel_rfl) Tryz.underlying123 Qbw Tryz.underlying196 Tryz.underlying198 rfl rfl Tryz.underlying9 (by kernel_rfl) (by kernel_rfl);exact⟨_,_,World.var?_cell (by kernel_rfl) hv 0⟩
 ·obtain⟨a,s,hv,_⟩:=laid_sentinel (g:=5) t4 (by kernel_rfl) (by kernel_rfl) Tryz.underlying123 Qbw Tryz.underlying196 Tryz.underlying198 rfl rfl Tryz.underlying9 (by kernel_rfl) (by kernel_rfl);exact⟨_,_,World.var?_cell (by kernel_rfl) hv 0⟩
def QdF:DataW Unit→List Value
 |.lit (.int k n)=>[.int k n]
 |_=>[]
def Qem:DataW Unit→List Value
 |.agg l=>l.flatMap QdF
 |d=>QdF d
def Q24:DataW Unit→List Value
 |.agg l=>l.flatMap Qem
 |_=>[]
def Qel:List Value:=[9,13,1,32,133,101,160,5760,5600,8192,8202,1,8232,8233,1,8239,8287,48,12288,12288,1].map fun(z:Int)=>Value.int .u16 z
def Q5q(h:Array Obj)(g:Nat)(cs:Array Value):Array Obj:=h.modify g fun
 |.cells _ t frozen=>.cells cs t frozen
 |o=>o
noncomputable def XU(os:Os):World:=
 let N:=(World.settled Tryz.prog os).heap.size
 let w0:=World.holding Tryz.prog os ⟨#[.cells #[.string ⟨#[118,97,108,117,101,32,111,117,116,32,111,102,32,114,97,110,103,101]⟩] 198,.cells #[.string ⟨#[105,110,118,97,108,105,100,32,115,121,110,116,97,120]⟩] 198,
  .cells #[.slice (some ⟨N+3,0,none⟩) 7 7,.slice none 0 0,.int .i64 2] 149,.cells Qel.toArray 152],#[],[]⟩
 let h1:=Q5q w0.heap 8 (Q24 Rows.laid_math_bits_deBruijn32tab).toArray
 let h2:=Q5q h1 9 (Q24 Rows.laid_math_bits_deBruijn64tab).toArray
 let h3:=Q5q h2 3 (Q24 Rows.laid_internal_strconv_uint64pow10).toArray
 let h4:=Q5q h3 7 (Q24 Rows.laid_unicode_utf8_acceptRanges).toArray
 let h5:=Q5q h4 5 #[.iface 196 (.pointer (some ⟨N,0,none⟩))]
 let h6:=Q5q h5 4 #[.iface 196 (.pointer (some ⟨N+1,0,none⟩))]
 let h7:=Q5q h6 1 #[.pointer (some ⟨N+2,0,none⟩)]
 let h8:=Q5q h7 0 (Q24 Rows.laid_strings_asciiSpace).toArray
 let h9:=Q5q h8 6 (Q24 Rows.laid_unicode_utf8_first).toArray
 { w0 with heap:=h9 }
noncomputable abbrev N0:Nat:=(World.settled Tryz.prog default).heap.size
section
variable (os:Os)(args:Array Value)
theorem Qe3 : LaidIn Tryz.prog ((XU os).forCall (fun _ _ => 0) ⟨#[], args, []⟩).memory [("math/bits.deBruijn32tab", Rows.laid_math_bits_deBruijn32tab), ("math/bits.deBruijn64tab", Rows.laid_math_bits_deBruijn64tab), ("internal/strconv.uint64pow10", Rows.laid_internal_strconv_uint64pow10), ("unicode/utf8.acceptRanges", Rows.laid_unicode_utf8_acceptRanges)] [8, 9, 3, 7] :=
 LaidIn.of_run _ 8 (by kernel_rfl) (by kernel_rfl) (by kernel_rfl) (by kernel_rfl)
theorem Qep : LaidIn Tryz.prog ((XU os).forCall (fun _ _ => 0) ⟨#[], args, []⟩).memory [("strconv.ErrRange", Rows.laid_strconv_ErrRange), ("strconv.ErrSyntax", Rows.laid_strconv_ErrSyntax), ("unicode.White_Space", Rows.laid_unicode_White_Space)] [5, 4, 1, N0, N0 + 1, N0 + 2, N0 + 3] :=
 LaidIn.of_run _ 8 (by kernel_rfl) (by kernel_rfl) (by kernel_rfl) (by kernel_rfl)
theorem Qeq : LaidIn Tryz.prog ((XU os).forCall (fun _ _ => 0) ⟨#[], args, []⟩).memory [("strings.asciiSpace", Rows.laid_strings_asciiSpace), ("unicode/utf8.first", Rows.laid_unicode_utf8_first)] [0, 6] :=
 LaidIn.of_run _ 8 (by kernel_rfl) (by kernel_rfl) (by kernel_rfl) (by kernel_rfl)
theorem YQ:laidMet Tryz.prog Q2j ((XU os).forCall (fun _ _=>0) ⟨#[],args,[]⟩).memory:=
 (((Qe3 os args).append (Qep os args) (by kernel_rfl)).append (Qeq os args) (by kernel_rfl)).met
end
theorem Qw{cs us:List Value}(h:us.length=cs.length):Vy cs 0 us=us:=by
 refine List.ext_getElem? fun i=>?_
 rw[Y1]
 split
 ·rw[Nat.sub_zero]
 ·next hn=>
  rw[List.getElem?_eq_none (by omega),List.getElem?_eq_none (by omega)]
theorem Qcl(s:Nat):∀(l:List Value) (k:Nat) (a:List Value),(l.zipIdx k).foldl (fun cs (x:Value×Nat)=>cs.setIfInBounds (0*s+x.2) x.1) a.toArray=(Vy a k l).toArray:=by
 intro l
 induction l with
 |nil=>intro k a;rfl
 |cons x l ih=>
  intro k a;rw[List.zipIdx_cons,List.foldl_cons,Vy]
  have e:a.toArray.setIfInBounds (0*s+k) x=(a.set k x).toArray:=by simp
  show (l.zipIdx (k+1)).foldl _ (a.toArray.setIfInBounds (0*s+k) x)=_
  rw[e];exact ih (k+1) (a.set k x)
theorem Qbg{s:Nat}{v:Value}{cs:List Value}{z:Array Value}(hv:v.cells=cs.toArray)(h:cs.length=s)(hz:z.size=s):Instr.fill (fun i=>some (i*s,s)) z [(0,v)]=some cs.toArray:=by
 have e:v.cells.zipIdx.foldl (fun cs (x:Value×Nat)=>cs.setIfInBounds (0*s+x.2) x.1) z=cs.toArray:=by
  rw[hv,← Array.foldl_toList];have h1:=Qcl s cs 0 z.toList;rw[Array.toArray_toList] at h1;rw[Qw (cs:=z.toList) (us:=cs) (by rw[h,Array.length_toList,hz])] at h1
  simpa using h1
 have hs1:v.cells.size=s:=by rw[hv,List.size_toArray,h]
 have hc:¬(v.cells.size≠s∨0*s+v.cells.size>z.size):=by rw[hs1,hz];omega
 unfold Instr.fill
 dsimp only
 rw[if_neg (by simpa using hc)]
 unfold Instr.fill
 exact congrArg some e
section
variable {P:Program}{ops:Array Oper}{N:Nat}{E:Env}{o:Oper}{M:List Nat}{W:World}{O:List Qg}
theorem Q8I{t e:TypeId}{size bytes:Nat}(hT:SlT P t e size bytes)(hs:size≤1000){v:Value}{cs:List Value}(hv:v.cells=cs.toArray)(hl:cs.length=size)(w:World):
  (Instr.buildSlice t 1 #[(0,v)]).run P w=.ok (.slice (some ⟨w.heap.size,0,none⟩) 1 1) (w.alloc (.cells cs.toArray e)):=by
 obtain⟨i,z,hi,hz,hsz,hby,hzs⟩:=hT.info;have hp:=hT.pos;refine run_buildSlice w t e 1 _ cs.toArray i z hT.und hi hz (by rw[hsz];omega) (by rw[hsz];omega) ?_;rw[hsz];exact Qbg hv hl (by simp)
theorem Qz{t e:TypeId}{size bytes:Nat}{x:Operand}{v:Value}{cs:List Value}[hT:Sl P t e size bytes](ho:o.op=.buildSlice t 1 #[(0,x)])(hw:Qm ops E o=some true)(hx:ev E x=some v)(hv:v.cells=cs.toArray)(hl:cs.length=size)(hs:size≤1000):
  uE P ops N M W E O o Nat (fun b=>.slice (some ⟨b,0,none⟩) 1 1) (fun b=>.blk b (.cells cs.toArray e (0,0))::O) (fun _=>True):=
 Q2Q (xs:=[(0,x)]) (vs:=[(0,v)]) ho hw (by simp [evp,hx]) (fun w=>Q8I hT.h hs hv hl w)
end
section
variable {P:Program}{ops:Array Oper}{Q0:Act→Prop}{Q:Exit→Act→World→Prop}{N:Nat}{E:Env}{o:Oper}{rest:List Oper}{M:List Nat}{W:World}{O:List Qg}{d:Nat}
theorem Vk{p:Prop}{b:Bool}(hp:b=true↔p)(h1:oE P ops (Wd M W O) N E ((d,.bool b)::E) o)(ht:p→lE P ops Q N M W ((d,.bool true)::E) O rest)(hf:¬p→lE P ops Q N M W ((d,.bool false)::E) O rest):lE P ops Q N M W E O (o::rest):=by
 cases b with
 |true=>exact Q1 h1 (ht (hp.1 rfl))
 |false=>exact Q1 h1 (hf fun h=>by have:=hp.2 h;cases this)
theorem Q2G{p:Prop}{b:Bool}(hp:b=true↔p)(h1:oE P ops (Wd M W O) N E ((d,.bool b)::E) o)(ht:p→qE P ops (Wd M W O) Q0 N ((d,.bool true)::E) rest)(hf:¬p→qE P ops (Wd M W O) Q0 N ((d,.bool false)::E) rest):qE P ops (Wd M W O) Q0 N E (o::rest):=by
 cases b with
 |true=>exact Qd h1 (ht (hp.1 rfl))
 |false=>exact Qd h1 (hf fun h=>by have:=hp.2 h;cases this)
theorem Q0g{p:Prop}[Decidable p]:decide p=true↔p:=decide_eq_true_iff
theorem Q5w{b:Bool}:b=true↔b=true:=Iff.rfl
theorem Qb{y:Code}(h:sE P Q N M W E O y):xE (Exit.then (fun a w=>y.wp P Q a w) Q) N M W E O .normal:=fun a w ha hw=>h a w ha hw
end
def cnt(s:Nat→Bool):Nat→Nat
 |0=>0
 |n+1=>cnt s n+if s n then 1 else 0
theorem Q63(s:Nat→Bool):∀n,cnt s n≤n
 |0=>Nat.le_refl _
 |n+1=>by have:=Q63 s n;unfold cnt;split<;>omega
theorem Q6O{s t:Nat→Bool}:∀n,(∀i,i<n→s i=true→t i=true)→cnt s n≤cnt t n
 |0,_=>Nat.le_refl _
 |n+1,h=>by
  have h1:=Q6O n (fun i hi=>h i (by omega));have h2:=h n (by omega)
  unfold cnt
  cases hs:s n with
  |false=>simp;omega
  |true=>rw[h2 hs];simp;omega
theorem Q31{s t:Nat→Bool}:∀n,(∀i,i<n→s i=true→t i=true)→(∃i,i<n∧s i=false∧t i=true)→cnt s n<cnt t n
 |0,_,⟨i,hi,_⟩=>absurd hi (by omega)
 |n+1,h,⟨i,hi,h0,h1⟩=>by
  have hm:=Q6O n (fun i hi=>h i (by omega))
  unfold cnt
  by_cases hin:i=n
  ·subst hin;rw[h0,h1]
   simp
   omega
  ·have:=Q31 n (fun i hi=>h i (by omega)) ⟨i,by omega,h0,h1⟩
   cases hs:s n with
   |false=>simp;omega
   |true=>rw[h n (by omega) hs];simp;omega
section
variable {n:Nat}{s:Nat→Nat→Bool}
theorem Q9r(hst:∀t,(∀i,i<n→s (t+1) i=s t i)→∀i,i<n→s (t+2) i=s (t+1) i){t:Nat}(h:∀i,i<n→s (t+1) i=s t i):∀k i,i<n→s (t+k+1) i=s (t+k) i
 |0,i,hi=>h i hi
 |k+1,i,hi=>hst (t+k) (Q9r hst h k) i hi
theorem Q2b(hm:∀t i,i<n→s t i=true→s (t+1) i=true)(hst:∀t,(∀i,i<n→s (t+1) i=s t i)→∀i,i<n→s (t+2) i=s (t+1) i):∀i,i<n→s (n+1) i=s n i:=by
 have key:∀t,t≤n+1→(∃u,u<t∧∀i,i<n→s (u+1) i=s u i)∨t≤cnt (s t) n:=by
  intro t
  induction t with
  |zero=>intro _;right;omega
  |succ t ih=>
   intro ht
   rcases ih (by omega) with ⟨u,hu,h⟩|hc
   ·exact .inl ⟨u,by omega,h⟩
   ·by_cases he:∀i,i<n→s (t+1) i=s t i
    ·exact .inl ⟨t,by omega,he⟩
    ·right
     have hex:∃i,i<n∧s t i=false∧s (t+1) i=true:=by
      refine Classical.byContradiction fun hne=>he fun i hi=>?_
      cases h0:s t i with
      |true=>rw[hm t i hi h0]
      |false=>
       cases h1:s (t+1) i with
       |false=>rfl
       |true=>exact absurd ⟨i,hi,h0,h1⟩ hne
     have:=Q31 n (hm t) hex
     omega
 rcases key (n+1) (Nat.le_refl _) with ⟨u,hu,h⟩|hc
 ·intro i hi;have:=Q9r hst h (n - u) i hi;rwa [show u+(n - u)=n by omega] at this
 ·have:=Q63 (s (n+1)) n
  omega
end
theorem Z1(l:List Bool)(k i:Nat)(b:Bool)(hk:k<l.length):(l.set k b).getD i false=if i=k then b else l.getD i false:=by
 rw[List.getD_eq_getElem?_getD,List.getElem?_set,List.getD_eq_getElem?_getD]
 by_cases h:k=i
 ·subst h;simp [hk]
 ·rw[if_neg h,if_neg (fun e=>h e.symm)]
def iter{α:Type}(f:α→α):Nat→α→α
 |0,a=>a
 |n+1,a=>f (iter f n a)
def LeB(a b:List Bool):Prop:=a.length=b.length∧∀i:Nat,a.getD i false=true→b.getD i false=true
theorem LeB.refl(a:List Bool):LeB a a:=⟨rfl,fun _ h=>h⟩
theorem LeB.trans{a b c:List Bool}(h:LeB a b)(k:LeB b c):LeB a c:=⟨h.1.trans k.1,fun i hi=>k.2 i (h.2 i hi)⟩
theorem LeB.set(a:List Bool)(i:Nat)(b:Bool)(h:a.getD i false=true→b=true):LeB a (a.set i b):=by
 refine⟨by simp,fun j hj=>?_⟩
 by_cases hi:i<a.length
 ·rw[Z1 _ _ _ _ hi]
  split
  ·next e=>subst e;exact h hj
  ·exact hj
 ·rw[List.set_eq_of_length_le (by omega)];exact hj
theorem Vv{β:Type}{f:List Bool→β→List Bool}(h:∀a b,LeB a (f a b)):∀(l:List β) (a:List Bool),LeB a (l.foldl f a)
 |[],a=>LeB.refl a
 |b::l,a=>(h a b).trans (Vv h l (f a b))
theorem VR{β:Type}{f:List Bool→β→List Bool}(h:∀a b,LeB a (f a b)):∀(l:List β) (a:List Bool) (b:β),b∈l→∃a',LeB a a'∧LeB (f a' b) (l.foldl f a)
 |[],_,_,hb=>by cases hb
 |x::l,a,b,hb=>by
  rcases List.mem_cons.1 hb with rfl|hb
  ·exact⟨a,LeB.refl a,Vv h l _⟩
  ·obtain⟨a',h1,h2⟩:=VR h l (f a x) b hb;exact⟨a',(h a x).trans h1,h2⟩
theorem Q0d{f:List Bool→List Bool}(h:∀a,LeB a (f a))(a:List Bool):∀n,LeB a (iter f n a)
 |0=>LeB.refl a
 |n+1=>(Q0d h a n).trans (h _)
theorem Jf{a b:List Bool}(hl:a.length=b.length)(h:∀i,i<a.length→a.getD i false=b.getD i false):a=b:=by
 refine List.ext_getElem hl fun i h1 h2=>?_
 have:=h i h1
 simpa [List.getD_eq_getElem?_getD,List.getElem?_eq_getElem h1,List.getElem?_eq_getElem h2] using this
theorem KZ{f:List Bool→List Bool}(h:∀a,LeB a (f a))(a:List Bool):f (iter f a.length a)=iter f a.length a:=by
 have hlen:∀t,(iter f t a).length=a.length:=fun t=>(Q0d h a t).1.symm
 refine Jf (by rw[← (h _).1]) fun i hi=>?_
 have hi':i<a.length:=by rw[← (h _).1,hlen] at hi;exact hi
 exact Q2b (n:=a.length) (s:=fun t i=>(iter f t a).getD i false) (fun t i _=>(h (iter f t a)).2 i)
  (fun t ht i hi=>by
   have e:iter f (t+1) a=iter f t a:=Jf (by rw[hlen,hlen]) fun j hj=>ht j (by rw[hlen] at hj;exact hj)
   show (f (iter f (t+1) a)).getD i false=(iter f (t+1) a).getD i false
   rw[e]
   show (iter f (t+1) a).getD i false=_
   rw[e]) i hi'
theorem KS{f:List Bool→List Bool}(h:∀a,LeB a (f a))(a:List Bool):∀k,iter f (a.length+k) a=iter f a.length a
 |0=>rfl
 |k+1=>by
  show f (iter f (a.length+k) a)=_
  rw[KS h a k,KZ h a]
def bg(F:List Rl)(i:Nat):List Nat:=match F[i]? with|none=>[]|some r=>(XP r.kind r.count r.elem r.parts).map Int.toNat
inductive Rch (F:List Rl):Nat→Nat→Prop
 |one {i j:Nat} (h:j∈bg F i):Rch F i j
 |more {i j k:Nat} (h:Rch F i j) (hk:k∈bg F j):Rch F i k
theorem Rch.trans{F:List Rl}{i j k:Nat}(h:Rch F i j)(h':Rch F j k):Rch F i k:=by
 induction h' with
 |one hk=>exact .more h hk
 |more _ hk ih=>exact .more ih hk
def Bd(F:List Rl):Prop:=∀i,∀x∈bg F i,x<F.length
theorem Rch.lt{F:List Rl}(hb:Bd F){i j:Nat}(h:Rch F i j):j<F.length:=by
 cases h with
 |one h=>exact hb _ _ h
 |more _ h=>exact hb _ _ h
def Q2F(out:List Bool)(l:List Nat):List Bool:=l.foldl (fun o x=>o.set x true) out
theorem Q9p(out:List Bool)(l:List Nat):LeB out (Q2F out l):=Vv (fun a b=>LeB.set a b true (fun _=>rfl)) l out
theorem QaO{out:List Bool}{l:List Nat}{x:Nat}(hx:x∈l)(hl:x<out.length):(Q2F out l).getD x false=true:=by
 obtain⟨a',h1,h2⟩:=VR (f:=fun o x=>o.set x true) (fun a b=>LeB.set a b true (fun _=>rfl)) l out x hx;exact h2.2 x (by rw[Z1 _ _ _ _ (by rw[← h1.1];exact hl),if_pos rfl])
theorem Qd1{l:List Nat}:∀{out:List Bool} {x:Nat},(Q2F out l).getD x false=true→out.getD x false=true∨x∈l:=by
 induction l with
 |nil=>intro out x h;exact .inl h
 |cons y l ih=>
  intro out x h
  rcases ih (out:=out.set y true) h with h1|h1
  ·by_cases hy:y<out.length
   ·rw[Z1 _ _ _ _ hy] at h1
    split at h1
    ·next e=>subst e;exact .inr List.mem_cons_self
    ·exact .inl h1
   ·rw[List.set_eq_of_length_le (by omega)] at h1;exact .inl h1
  ·exact .inr (List.mem_cons_of_mem _ h1)
def Zh(F:List Rl)(st:Nat)(out:List Bool)(i:Nat):List Bool:=if i=st∨out.getD i false=true then Q2F out (bg F i) else out
def Zi(F:List Rl)(st:Nat)(out:List Bool):List Bool:=(List.range F.length).foldl (Zh F st) out
def Zb(F:List Rl)(st:Nat):List Bool:=iter (Zi F st) (F.length+1) (List.replicate F.length false)
theorem K1(F:List Rl)(st:Nat)(out:List Bool)(i:Nat):LeB out (Zh F st out i):=by
 unfold Zh
 split
 ·exact Q9p _ _
 ·exact LeB.refl _
theorem Vm(F:List Rl)(st:Nat)(out:List Bool):LeB out (Zi F st out):=Vv (K1 F st) _ _
theorem VW(F:List Rl)(st:Nat):(Zb F st).length=F.length:=by
 have:=(Q0d (Vm F st) (List.replicate F.length false) (F.length+1)).1;rw[List.length_replicate] at this;exact this.symm
def Snd(F:List Rl)(st:Nat)(out:List Bool):Prop:=∀i:Nat,out.getD i false=true→Rch F st i
theorem Q4q{F:List Rl}{st i:Nat}{out:List Bool}(h:Snd F st out):Snd F st (Zh F st out i):=by
 intro j hj
 unfold Zh at hj
 split at hj
 ·next hc=>
  rcases Qd1 hj with h1|h1
  ·exact h j h1
  ·rcases hc with rfl|hc
   ·exact .one h1
   ·exact .more (h i hc) h1
 ·exact h j hj
theorem Q00{α β:Type}{f:α→β→α}{p:α→Prop}(h:∀a b,p a→p (f a b)):∀(l:List β) (a:α),p a→p (l.foldl f a)
 |[],a,ha=>ha
 |b::l,a,ha=>Q00 h l (f a b) (h a b ha)
theorem Q1c{α:Type}{f:α→α}{p:α→Prop}(h:∀a,p a→p (f a)){a:α}(ha:p a):∀n,p (iter f n a)
 |0=>ha
 |n+1=>h _ (Q1c h ha n)
theorem Ke{F:List Rl}(hb:Bd F){st:Nat}(hs:st<F.length)(j:Nat):(Zb F st).getD j false=true↔Rch F st j:=by
 constructor
 ·intro h;refine Q1c (f:=Zi F st) (p:=Snd F st) (fun a ha=>Q00 (fun a b ha=>Q4q ha) _ _ ha) (a:=List.replicate F.length false) ?_ (F.length+1) j h;intro i hi
  simp only[List.getD_eq_getElem?_getD,List.getElem?_replicate] at hi
  split at hi<;>simp at hi
 ·have hrest:Zi F st (Zb F st)=Zb F st:=by
   have h1:=KS (Vm F st) (List.replicate F.length false) 1;rw[List.length_replicate] at h1;have h2:=KZ (Vm F st) (List.replicate F.length false);rw[List.length_replicate] at h2
   unfold Zb
   rw[h1];exact h2
  have hclosed:∀i x,i<F.length→(i=st∨(Zb F st).getD i false=true)→x∈bg F i→(Zb F st).getD x false=true:=by
   intro i x hi hc hx;obtain⟨a',h1,h2⟩:=VR (K1 F st) (List.range F.length) (Zb F st) i (List.mem_range.2 hi)
   have h3:(Zh F st a' i).getD x false=true:=by
    unfold Zh
    rw[if_pos (hc.imp id (h1.2 i))];exact QaO hx (by rw[← h1.1,VW];exact hb i x hx)
   have h4:=h2.2 x h3;have:(Zi F st (Zb F st)).getD x false=true:=h4;rwa [hrest] at this
  intro h
  induction h with
  |one h=>exact hclosed _ _ hs (.inl rfl) h
  |more h hk ih=>exact hclosed _ _ (h.lt hb) (.inr ih) hk
end Go.Proofs.YtgdiadednlajgaaGreatDoor
